import JvmDerived
import JvmDerived.Pilot.@@N@@Statement
import JvmDerived.Pilot.@@N@@Code
set_option linter.unusedVariables false
set_option linter.unusedSimpArgs false
@@BLOCK:NumsL.lean.txt@@
namespace Jvm.LM
open Sem ClassFile Op Lib Jvm.Stand Jvm.Free Jvm.LawKit Jvm.RoadKit
/-! A small machine over plain data that mirrors the bytecode of one class and of a law over it. -/
abbrev Lv := List (Option Value)
abbrev St := (Nat → Nat → Int32) × (Nat → Nat → Int64)
abbrev Cd := List (Nat × Instr × Nat)
/-- name, descriptor, kind (0 int, 1 boolean, 2 long, 3+j the j-th array), final -/
abbrev Fe := String × String × Nat × Bool
/-- name, descriptor, number of arguments, return kind (0 none, 1 int, 2 boolean, 3 long), code, max_locals, room: frames, locals -/
abbrev Me := String × String × Nat × Nat × Cd × Nat × Nat × Nat
/-- class name, fields, arrays (kind, length), pool to field, pool to method, pool to constant, methods, pool index of Object's constructor -/
abbrev Cl := String × List (Nat × Fe) × List (Nat × Nat) × List (Nat × Nat) × List (Nat × Nat) × List (Nat × Value) × List (Nat × Me) × Nat
def Me.nm (m : Me) : String := m.1
def Me.ds (m : Me) : String := m.2.1
def Me.na (m : Me) : Nat := m.2.2.1
def Me.rt (m : Me) : Nat := m.2.2.2.1
def Me.cd (m : Me) : Cd := m.2.2.2.2.1
def Me.ml (m : Me) : Nat := m.2.2.2.2.2.1
def Me.rf (m : Me) : Nat := m.2.2.2.2.2.2.1
def Me.rl (m : Me) : Nat := m.2.2.2.2.2.2.2
def Cl.nm (P : Cl) : String := P.1
def Cl.fs (P : Cl) : List (Nat × Fe) := P.2.1
def Cl.al (P : Cl) : List (Nat × Nat) := P.2.2.1
def Cl.fx (P : Cl) : List (Nat × Nat) := P.2.2.2.1
def Cl.mx (P : Cl) : List (Nat × Nat) := P.2.2.2.2.1
def Cl.kx (P : Cl) : List (Nat × Value) := P.2.2.2.2.2.1
def Cl.ms (P : Cl) : List (Nat × Me) := P.2.2.2.2.2.2.1
def Cl.oi (P : Cl) : Nat := P.2.2.2.2.2.2.2
def gI (s : St) (c j : Nat) : Int32 := s.1 c j
def gL (s : St) (c j : Nat) : Int64 := s.2 c j
def sI (s : St) (c j : Nat) (v : Int32) : St := (fun a b => if a = c ∧ b = j then v else s.1 a b, s.2)
def sL (s : St) (c j : Nat) (v : Int64) : St := (s.1, fun a b => if a = c ∧ b = j then v else s.2 a b)
def s0 : St := (fun _ _ => 0, fun _ _ => 0)
def ix (i : Int32) : Nat := i.toNatClampNeg
abbrev inb (n : Nat) (i : Int32) : Prop := 0 ≤ i.toInt ∧ i.toInt < (n : Int)
def asc {α : Type} : List (Nat × α) → Nat → Option α
  | [], _ => none
  | (a, b) :: r, k => match Nat.beq a k with
    | true => some b
    | false => asc r k
def fetch : Cd → Nat → Option (Instr × Nat)
  | [], _ => none
  | (a, b) :: r, k => match Nat.beq a k with
    | true => some b
    | false => fetch r k
def ilen : Instr → Nat
  | .iload _ => 2 | .lload _ => 2 | .aload _ => 2 | .istore _ => 2 | .lstore _ => 2 | .astore _ => 2 | .bipush _ => 2 | .ldc _ => 2 | .newarray _ => 2
  | .sipush _ => 3 | .iinc _ _ => 3 | .goto _ => 3 | .ifCond _ _ => 3 | .if_icmp _ _ => 3 | .getfield _ => 3 | .putfield _ => 3
  | .invokevirtual _ => 3 | .invokespecial _ => 3 | .invokestatic _ => 3 | .new _ => 3 | .ldc2_w _ => 3
  | _ => 1
def isSw : Instr → Bool
  | .tableswitch _ _ _ _ => true
  | _ => false
def clr (ls : Lv) : Nat → Lv
  | 0 => ls
  | j + 1 => match ls[j]? with
    | some (some (.long _)) => ls.set j none
    | some (some (.double _)) => ls.set j none
    | _ => ls
/-- a store into the local variables: a long takes two -/
def stl (ls : Lv) (i : Nat) (v : Value) : Option Lv :=
  match v with
  | .long x => if i + 1 < ls.length then some (((clr ls i).set i (some (.long x))).set (i + 1) none) else none
  | w => if i < ls.length then some ((clr ls i).set i (some w)) else none
def br (cd : ClassFile.Cond) (x y : Int32) (a b : Nat) : Nat :=
  match cd with
  | .eq => if x = y then a else b
  | .ne => if x = y then b else a
  | .lt => if x < y then a else b
  | .ge => if x < y then b else a
  | .gt => if y < x then a else b
  | .le => if y < x then b else a
def jmp (pc : Nat) (o : Int) : Nat := ((pc : Int) + o).toNat
def qstep (i : Instr) (pc : Nat) (st : List Value) : Option (Nat × List Value) :=
  match i with
  | .iconst v => some (pc + 1, .int (Int32.ofInt v) :: st)
  | .bipush v => some (pc + 2, .int (Int8.ofInt v).toInt32 :: st)
  | .sipush v => some (pc + 3, .int (Int16.ofInt v).toInt32 :: st)
  | .lconst k => some (pc + 1, .long (Int64.ofNat k) :: st)
  | .iadd => match st with | .int y :: .int x :: r => some (pc + 1, .int (x + y) :: r) | _ => none
  | .isub => match st with | .int y :: .int x :: r => some (pc + 1, .int (x - y) :: r) | _ => none
  | .imul => match st with | .int y :: .int x :: r => some (pc + 1, .int (x * y) :: r) | _ => none
  | .iand => match st with | .int y :: .int x :: r => some (pc + 1, .int (x &&& y) :: r) | _ => none
  | .ior => match st with | .int y :: .int x :: r => some (pc + 1, .int (x ||| y) :: r) | _ => none
  | .ixor => match st with | .int y :: .int x :: r => some (pc + 1, .int (x ^^^ y) :: r) | _ => none
  | .ishl => match st with | .int y :: .int x :: r => some (pc + 1, .int (x <<< (y &&& 31)) :: r) | _ => none
  | .ishr => match st with | .int y :: .int x :: r => some (pc + 1, .int (x >>> (y &&& 31)) :: r) | _ => none
  | .iushr => match st with | .int y :: .int x :: r => some (pc + 1, .int (XT.ushr x y) :: r) | _ => none
  | .idiv => match st with | .int y :: .int x :: r => if y = 0 then none else some (pc + 1, .int (x / y) :: r) | _ => none
  | .irem => match st with | .int y :: .int x :: r => if y = 0 then none else some (pc + 1, .int (x % y) :: r) | _ => none
  | .ineg => match st with | .int x :: r => some (pc + 1, .int (-x) :: r) | _ => none
  | .ladd => match st with | .long y :: .long x :: r => some (pc + 1, .long (x + y) :: r) | _ => none
  | .lsub => match st with | .long y :: .long x :: r => some (pc + 1, .long (x - y) :: r) | _ => none
  | .lmul => match st with | .long y :: .long x :: r => some (pc + 1, .long (x * y) :: r) | _ => none
  | .land => match st with | .long y :: .long x :: r => some (pc + 1, .long (x &&& y) :: r) | _ => none
  | .lor => match st with | .long y :: .long x :: r => some (pc + 1, .long (x ||| y) :: r) | _ => none
  | .lxor => match st with | .long y :: .long x :: r => some (pc + 1, .long (x ^^^ y) :: r) | _ => none
  | .lshl => match st with | .int y :: .long x :: r => some (pc + 1, .long (x <<< (y.toInt64 &&& 63)) :: r) | _ => none
  | .lshr => match st with | .int y :: .long x :: r => some (pc + 1, .long (x >>> (y.toInt64 &&& 63)) :: r) | _ => none
  | .lushr => match st with | .int y :: .long x :: r => some (pc + 1, .long (XT.ushrL x y) :: r) | _ => none
  | .ldiv => match st with | .long y :: .long x :: r => if y = 0 then none else some (pc + 1, .long (x / y) :: r) | _ => none
  | .lneg => match st with | .long x :: r => some (pc + 1, .long (-x) :: r) | _ => none
  | .lcmp => match st with | .long y :: .long x :: r => some (pc + 1, .int (XT.cmpL x y) :: r) | _ => none
  | .i2l => match st with | .int x :: r => some (pc + 1, .long x.toInt64 :: r) | _ => none
  | .l2i => match st with | .long x :: r => some (pc + 1, .int x.toInt32 :: r) | _ => none
  | .dup => match st with | .int x :: r => some (pc + 1, .int x :: .int x :: r) | .ref x :: r => some (pc + 1, .ref x :: .ref x :: r) | _ => none
  | .pop => match st with | .int _ :: r => some (pc + 1, r) | .ref _ :: r => some (pc + 1, r) | _ => none
  | .goto o => if 0 ≤ (pc : Int) + o then some (jmp pc o, st) else none
  | .ifCond cd o => match st with | .int x :: r => if 0 ≤ (pc : Int) + o then some (br cd x 0 (jmp pc o) (pc + 3), r) else none | _ => none
  | .if_icmp cd o => match st with | .int y :: .int x :: r => if 0 ≤ (pc : Int) + o then some (br cd x y (jmp pc o) (pc + 3), r) else none | _ => none
  | .tableswitch d lo hi offs => match st with
    | .int x :: r => if x.toInt < lo ∨ x.toInt > hi then (if 0 ≤ (pc : Int) + d then some (jmp pc d, r) else none)
      else (match offs[(x.toInt - lo).toNat]? with | some o => if 0 ≤ (pc : Int) + o then some (jmp pc o, r) else none | none => none)
    | _ => none
  | _ => none
def pstep (i : Instr) (pc : Nat) (ls : Lv) (st : List Value) : Option (Nat × Lv × List Value) :=
  match i with
  | .iload_n k => match ls[k.val]? with | some (some (.int v)) => some (pc + 1, ls, .int v :: st) | _ => none
  | .iload k => match ls[k]? with | some (some (.int v)) => some (pc + 2, ls, .int v :: st) | _ => none
  | .lload_n k => match ls[k.val]? with | some (some (.long v)) => some (pc + 1, ls, .long v :: st) | _ => none
  | .lload k => match ls[k]? with | some (some (.long v)) => some (pc + 2, ls, .long v :: st) | _ => none
  | .aload_n k => match ls[k.val]? with | some (some (.ref v)) => some (pc + 1, ls, .ref v :: st) | _ => none
  | .aload k => match ls[k]? with | some (some (.ref v)) => some (pc + 2, ls, .ref v :: st) | _ => none
  | .istore_n k => match st with | .int v :: r => (match stl ls k.val (.int v) with | some l => some (pc + 1, l, r) | none => none) | _ => none
  | .istore k => match st with | .int v :: r => (match stl ls k (.int v) with | some l => some (pc + 2, l, r) | none => none) | _ => none
  | .lstore_n k => match st with | .long v :: r => (match stl ls k.val (.long v) with | some l => some (pc + 1, l, r) | none => none) | _ => none
  | .lstore k => match st with | .long v :: r => (match stl ls k (.long v) with | some l => some (pc + 2, l, r) | none => none) | _ => none
  | .astore_n k => match st with | .ref v :: r => (match stl ls k.val (.ref v) with | some l => some (pc + 1, l, r) | none => none) | _ => none
  | .astore k => match st with | .ref v :: r => (match stl ls k (.ref v) with | some l => some (pc + 2, l, r) | none => none) | _ => none
  | .iinc k d => match ls[k]? with | some (some (.int v)) => (match stl ls k (.int (v + Int32.ofInt d)) with | some l => some (pc + 3, l, st) | none => none) | _ => none
  | i => match qstep i pc st with | some (pc', st') => some (pc', ls, st') | none => none
/-- how the machine's references stand in the heap -/
def va (ρ : Nat → Nat) : Value → Value
  | .ref c => .ref (ρ c)
  | v => v
def WF (L : Array Slot) : Prop :=
  (∀ (k : Nat) (v : Value), L[k]? = some (Slot.val v) → v.category = 2 → L[k + 1]? = some .second) ∧
  (∀ k : Nat, L[k + 1]? = some Slot.second → ∃ v : Value, L[k]? = some (Slot.val v) ∧ v.category = 2) ∧ L[0]? ≠ some Slot.second
def LR (ρ : Nat → Nat) (ls : Lv) (L : Array Slot) : Prop :=
  L.size = ls.length ∧ (∀ (k : Nat) (v : Value), ls[k]? = some (some v) → L[k]? = some (Slot.val (va ρ v))) ∧ WF L
end Jvm.LM

namespace Jvm.LM
open Sem ClassFile Op Lib Jvm.Stand Jvm.Free Jvm.LawKit Jvm.RoadKit
/-! the local variables -/
def upd (f : Nat → Option Slot) (i : Nat) (x : Slot) : Nat → Option Slot := fun k => if k = i then some x else f k
def WFf (f : Nat → Option Slot) : Prop :=
  (∀ k v, f k = some (.val v) → v.category = 2 → f (k + 1) = some .second) ∧
  (∀ k, f (k + 1) = some .second → ∃ v, f k = some (.val v) ∧ v.category = 2) ∧ f 0 ≠ some .second
def clearF (f : Nat → Option Slot) (i : Nat) : Nat → Option Slot :=
  match f i with
  | some .second => upd (upd f (i - 1) .unset) i .unset
  | some (.val old) => if old.category = 2 then upd (upd f (i + 1) .unset) i .unset else upd f i .unset
  | _ => f
theorem clearF_cases (f : Nat → Option Slot) (i : Nat) : (f i = some .second ∧ clearF f i = upd (upd f (i - 1) .unset) i .unset) ∨ (∃ old, f i = some (.val old) ∧ old.category = 2 ∧ clearF f i = upd (upd f (i + 1) .unset) i .unset) ∨
    (∃ old, f i = some (.val old) ∧ old.category ≠ 2 ∧ clearF f i = upd f i .unset) ∨ ((f i = some .unset ∨ f i = none) ∧ clearF f i = f) := by
  cases h : f i with
  | none => exact Or.inr (Or.inr (Or.inr ⟨Or.inr rfl, by simp only [clearF, h]⟩))
  | some x =>
    cases x with
    | unset => exact Or.inr (Or.inr (Or.inr ⟨Or.inl rfl, by simp only [clearF, h]⟩))
    | second => exact Or.inl ⟨rfl, by simp only [clearF, h]⟩
    | val old =>
      by_cases hc : old.category = 2
      · exact Or.inr (Or.inl ⟨old, rfl, hc, by simp only [clearF, h]; rw [if_pos hc]⟩)
      · exact Or.inr (Or.inr (Or.inl ⟨old, rfl, hc, by simp only [clearF, h]; rw [if_neg hc]⟩))
theorem wff_clear {f : Nat → Option Slot} (h : WFf f) (i : Nat) : WFf (clearF f i) := by
  obtain ⟨h1, h2, h3⟩ := h
  unfold clearF
  split
  · rename_i e
    cases i with
    | zero => exact absurd e h3
    | succ j =>
      refine ⟨fun k v hk hc => ?_, fun k hk => ?_, ?_⟩
      · simp only [upd, Nat.add_sub_cancel] at hk ⊢
        have := h1 k v
        by_cases a : k = j + 1
        · simp [a] at hk
        · by_cases b : k = j
          · simp [b] at hk
          · have c : k + 1 ≠ j + 1 := by omega
            simp only [a, b, if_false] at hk
            by_cases d : k + 1 = j
            · have := h1 k v hk hc
              obtain ⟨w, hw, hw2⟩ := h2 j e
              rw [d, hw] at this; cases this
            · simp [c, d, b, h1 k v hk hc]
      · simp only [upd, Nat.add_sub_cancel] at hk ⊢
        by_cases a : k = j
        · simp [a] at hk
        · by_cases b : k + 1 = j
          · simp [b] at hk
          · simp only [show ¬ (k + 1 = j + 1) by omega, b, if_false] at hk
            obtain ⟨w, hw, hw2⟩ := h2 k hk
            by_cases d : k = j + 1
            · rw [d, e] at hw; cases hw
            · exact ⟨w, by simp [d, a, hw], hw2⟩
      · simp only [upd, Nat.add_sub_cancel]
        by_cases b : 0 = j
        · simp [← b]
        · simp [b, h3]
  · rename_i old e
    split
    · rename_i hc2
      have e2 := h1 i old e hc2
      refine ⟨fun k v hk hc => ?_, fun k hk => ?_, ?_⟩
      · simp only [upd] at hk ⊢
        by_cases a : k = i
        · simp [a] at hk
        · by_cases b : k = i + 1
          · simp [b] at hk
          · simp only [a, b, if_false] at hk
            have q := h1 k v hk hc
            by_cases d : k + 1 = i
            · rw [d, e] at q; cases q
            · simp [d, a, show ¬ (k + 1 = i + 1) by omega, q]
      · simp only [upd] at hk ⊢
        by_cases a : k + 1 = i
        · simp [a] at hk
        · by_cases b : k = i
          · simp [b] at hk
          · simp only [a, show ¬ (k + 1 = i + 1) by omega, if_false] at hk
            obtain ⟨w, hw, hw2⟩ := h2 k hk
            by_cases d : k = i + 1
            · rw [d, e2] at hw; cases hw
            · exact ⟨w, by simp [d, b, hw], hw2⟩
      · simp only [upd]
        by_cases b : 0 = i
        · simp [← b]
        · simp [b, h3]
    · rename_i hc2
      refine ⟨fun k v hk hc => ?_, fun k hk => ?_, ?_⟩
      · simp only [upd] at hk ⊢
        by_cases a : k = i
        · simp [a] at hk
        · simp only [a, if_false] at hk
          have q := h1 k v hk hc
          by_cases d : k + 1 = i
          · rw [d, e] at q; cases q
          · simp [d, q]
      · simp only [upd] at hk ⊢
        by_cases a : k + 1 = i
        · simp [a] at hk
        · simp only [a, if_false] at hk
          obtain ⟨w, hw, hw2⟩ := h2 k hk
          by_cases d : k = i
          · rw [d, e] at hw; cases hw; exact absurd hw2 hc2
          · exact ⟨w, by simp [d, hw], hw2⟩
      · simp only [upd]
        by_cases b : 0 = i
        · simp [← b]
        · simp [b, h3]
  · exact ⟨h1, h2, h3⟩
theorem wff_one {f : Nat → Option Slot} (h : WFf f) {i : Nat} (e : f i = some .unset) {v : Value} (hv : v.category ≠ 2) : WFf (upd f i (.val v)) := by
  obtain ⟨h1, h2, h3⟩ := h
  refine ⟨fun k w hk hc => ?_, fun k hk => ?_, ?_⟩
  · simp only [upd] at hk ⊢
    by_cases a : k = i
    · simp only [a, if_true, Option.some.injEq, Slot.val.injEq] at hk; subst hk; exact absurd hc hv
    · simp only [a, if_false] at hk
      have q := h1 k w hk hc
      by_cases d : k + 1 = i
      · rw [d, e] at q; cases q
      · simp [d, q]
  · simp only [upd] at hk ⊢
    by_cases a : k + 1 = i
    · simp [a] at hk
    · simp only [a, if_false] at hk
      obtain ⟨w, hw, hw2⟩ := h2 k hk
      by_cases d : k = i
      · rw [d, e] at hw; cases hw
      · exact ⟨w, by simp [d, hw], hw2⟩
  · simp only [upd]
    by_cases b : 0 = i
    · simp [← b]
    · simp [b, h3]
theorem wff_two {f : Nat → Option Slot} (h : WFf f) {i : Nat} (e : f i = some .unset) (e' : f (i + 1) = some .unset) {v : Value} (hv : v.category = 2) : WFf (upd (upd f i (.val v)) (i + 1) .second) := by
  obtain ⟨h1, h2, h3⟩ := h
  refine ⟨fun k w hk hc => ?_, fun k hk => ?_, ?_⟩
  · simp only [upd] at hk ⊢
    by_cases a : k = i + 1
    · simp [a] at hk
    · by_cases b : k = i
      · simp [b]
      · simp only [a, b, if_false] at hk
        have q := h1 k w hk hc
        by_cases d : k + 1 = i
        · rw [d, e] at q; cases q
        · simp [d, show ¬ (k + 1 = i + 1) by omega, q]
  · simp only [upd] at hk ⊢
    by_cases a : k = i
    · exact ⟨v, by simp [a], hv⟩
    · by_cases b : k + 1 = i
      · simp [b] at hk
      · simp only [show ¬ (k + 1 = i + 1) by omega, b, if_false] at hk
        obtain ⟨w, hw, hw2⟩ := h2 k hk
        by_cases d : k = i + 1
        · rw [d, e'] at hw; cases hw
        · exact ⟨w, by simp [d, a, hw], hw2⟩
  · simp only [upd]
    by_cases b : 0 = i
    · simp [← b]
    · simp [b, h3]
theorem gset (L : Array Slot) {i : Nat} (hi : i < L.size) (x : Slot) : (fun k => (L.setIfInBounds i x)[k]?) = upd (fun k => L[k]?) i x := by
  funext k
  simp only [upd, Array.getElem?_setIfInBounds]
  by_cases a : i = k
  · subst a; simp [hi]
  · simp [a, show ¬ k = i from fun h => a h.symm]
theorem sl_eq (L : Array Slot) (i : Nat) (v : Value) : storeLocals L i v = (L[i]?).bind (fun x => match x with
    | .second => (setAt L (i - 1) .unset).bind (fun l => storeSelf l i v)
    | .val old => if old.category = 2 then (setAt L (i + 1) .unset).bind (fun l => storeSelf l i v) else storeSelf L i v
    | .unset => storeSelf L i v) := rfl
theorem ss_eq (L : Array Slot) (i : Nat) (v : Value) : storeSelf L i v = (setAt L i (.val v)).bind (fun l => if v.category = 2 then (l[i + 1]?).bind (fun x => match x with
    | .val old => if old.category = 2 then (setAt l (i + 2) .unset).bind (fun l' => setAt l' (i + 1) .second) else setAt l (i + 1) .second
    | _ => setAt l (i + 1) .second) else some l) := rfl
theorem sa_eq {L : Array Slot} {i : Nat} (hi : i < L.size) (x : Slot) : setAt L i x = some (L.setIfInBounds i x) := if_pos hi
theorem upd_upd (f : Nat → Option Slot) (i : Nat) (x y : Slot) : upd (upd f i x) i y = upd f i y := by
  funext k; simp only [upd]; split <;> rfl
/-- what a store clears first -/
theorem clear_ok {L : Array Slot} (hW : WF L) {i : Nat} (hi : i < L.size) (v : Value) : ∃ L1, storeLocals L i v = storeSelf L1 i v ∧ L1.size = L.size ∧ upd (fun k => L1[k]?) i .unset = upd (clearF (fun k => L[k]?) i) i .unset := by
  have hh : WFf (fun k => L[k]?) := hW
  obtain ⟨sl, hsl⟩ : ∃ sl, L[i]? = some sl := ⟨L[i], Array.getElem?_eq_getElem hi⟩
  rw [sl_eq, hsl, Option.bind_some]
  cases sl with
  | unset => exact ⟨L, rfl, rfl, by simp only [clearF, hsl]⟩
  | second =>
    refine ⟨L.setIfInBounds (i - 1) .unset, ?_, by simp, ?_⟩
    · show (setAt L (i - 1) .unset).bind _ = _
      rw [sa_eq (by omega)]; rfl
    · rw [gset _ (by omega)]; simp only [clearF, hsl, upd_upd]
  | val old =>
    by_cases hc : old.category = 2
    · have h2 := hh.1 i old hsl hc
      have hlt : i + 1 < L.size := (Array.getElem?_eq_some_iff.mp h2).1
      refine ⟨L.setIfInBounds (i + 1) .unset, ?_, by simp, ?_⟩
      · show (if old.category = 2 then _ else _) = _
        rw [if_pos hc, sa_eq hlt]; rfl
      · rw [gset _ hlt]; simp only [clearF, hsl, hc, if_true, upd_upd]
    · refine ⟨L, ?_, rfl, ?_⟩
      · show (if old.category = 2 then _ else _) = _
        rw [if_neg hc]
      · simp only [clearF, hsl, hc, if_false, upd_upd]
theorem clearF_at {f : Nat → Option Slot} {i : Nat} (hi : f i ≠ none) : clearF f i i = some .unset := by
  rcases clearF_cases f i with ⟨h1, h2⟩ | ⟨old, h1, h3, h2⟩ | ⟨old, h1, h3, h2⟩ | ⟨h1 | h1, h2⟩
  · rw [h2]; simp [upd]
  · rw [h2]; simp [upd]
  · rw [h2]; simp [upd]
  · rw [h2]; exact h1
  · exact absurd h1 hi
theorem clearF_self {f : Nat → Option Slot} {i : Nat} (hi : f i ≠ none) : upd (clearF f i) i .unset = clearF f i := by
  funext k; simp only [upd]; split
  · rename_i e; rw [e]; exact (clearF_at hi).symm
  · rfl
/-- the other variables: kept, or they held (a part of) a long -/
theorem clearF_keep {f : Nat → Option Slot} (h : WFf f) {i k : Nat} {w : Value} (hk : k ≠ i) (e : f k = some (.val w)) (hw : k + 1 = i → w.category ≠ 2) : clearF f i k = some (.val w) := by
  rcases clearF_cases f i with ⟨e2, h2⟩ | ⟨old, e2, hc, h2⟩ | ⟨old, e2, hc, h2⟩ | ⟨-, h2⟩
  · rw [h2]
    cases i with
    | zero => exact absurd e2 h.2.2
    | succ j =>
      simp only [upd, Nat.add_sub_cancel, hk, if_false]
      split
      · rename_i hj; subst hj
        obtain ⟨v, hv, hv2⟩ := h.2.1 k e2
        rw [e] at hv; cases hv; exact absurd hv2 (hw rfl)
      · exact e
  · rw [h2]
    have q := h.1 i old e2 hc
    simp only [upd, hk, if_false]
    split
    · rename_i hj; rw [hj, q] at e; cases e
    · exact e
  · rw [h2]; simp [upd, hk, e]
  · rw [h2]; exact e
theorem store_one {L : Array Slot} (hW : WF L) {i : Nat} (hi : i < L.size) {v : Value} (hv : v.category ≠ 2) :
    ∃ L', storeLocals L i v = some L' ∧ L'.size = L.size ∧ WF L' ∧ (fun k => L'[k]?) = upd (clearF (fun k => L[k]?) i) i (.val v) := by
  obtain ⟨L1, h1, h2, h3⟩ := clear_ok hW hi v
  have hne : (fun k => L[k]?) i ≠ none := by simp; omega
  have hi1 : i < L1.size := by omega
  refine ⟨L1.setIfInBounds i (.val v), ?_, by simp [h2], ?_, ?_⟩
  · rw [h1, ss_eq, sa_eq hi1, Option.bind_some, if_neg hv]
  · have q : (fun k => (L1.setIfInBounds i (.val v))[k]?) = upd (clearF (fun k => L[k]?) i) i (.val v) := by
      rw [gset _ hi1, ← upd_upd _ i .unset, h3, upd_upd]
    have w : WFf (fun k => (L1.setIfInBounds i (.val v))[k]?) := by
      rw [q]; exact wff_one (wff_clear hW i) (clearF_at hne) hv
    exact w
  · rw [gset _ hi1, ← upd_upd _ i .unset, h3, upd_upd]
theorem store_two {L : Array Slot} (hW : WF L) {i : Nat} (hi : i + 1 < L.size) {v : Value} (hv : v.category = 2) :
    ∃ L', storeLocals L i v = some L' ∧ L'.size = L.size ∧ WF L' ∧ (fun k => L'[k]?) = upd (upd (clearF (clearF (fun k => L[k]?) i) (i + 1)) i (.val v)) (i + 1) .second := by
  obtain ⟨L1, h1, h2, h3⟩ := clear_ok hW (show i < L.size by omega) v
  have hne : (fun k => L[k]?) i ≠ none := by simp; omega
  have hi1 : i < L1.size := by omega
  have hi2 : i + 1 < L1.size := by omega
  rw [clearF_self hne] at h3
  have hWc := wff_clear (f := fun k => L[k]?) hW i
  generalize hF : clearF (fun k => L[k]?) i = F at *
  have hFi : F i = some .unset := by rw [← hF]; exact clearF_at hne
  have g1 : (fun k => (L1.setIfInBounds i (.val v))[k]?) = upd F i (.val v) := by rw [gset _ hi1, ← upd_upd _ i .unset, h3]
  have g2 : (L1.setIfInBounds i (.val v))[i + 1]? = F (i + 1) := by
    have := congrFun g1 (i + 1); simpa [upd] using this
  have hFi1 : F (i + 1) ≠ none := by
    have : (L1.setIfInBounds i (.val v))[i + 1]? ≠ none := by simp; omega
    rw [g2] at this; exact this
  have hns : F (i + 1) ≠ some .second := fun q => by
    obtain ⟨w, hw, -⟩ := hWc.2.1 i q
    rw [hFi] at hw; cases hw
  have key : ∀ G : Nat → Option Slot, WFf G → G i = some .unset → G (i + 1) = some .unset → G = clearF F (i + 1) → WFf (upd (upd (clearF F (i + 1)) i (.val v)) (i + 1) .second) := fun G hG a b e => by rw [← e]; exact wff_two hG a b hv
  have hcl := wff_clear hWc (i + 1)
  have hcli : clearF F (i + 1) i = some .unset := by
    rcases clearF_cases F (i + 1) with ⟨q, h2⟩ | ⟨old, q, hc, h2⟩ | ⟨old, q, hc, h2⟩ | ⟨-, h2⟩
    · exact absurd q hns
    · rw [h2]; simp [upd, hFi]
    · rw [h2]; simp [upd, hFi]
    · rw [h2]; exact hFi
  have hWF := wff_two hcl hcli (clearF_at hFi1) hv
  rw [h1, ss_eq, sa_eq hi1, Option.bind_some, if_pos hv, g2]
  cases hx : F (i + 1) with
  | none => exact absurd hx hFi1
  | some sl =>
    cases sl with
    | second => exact absurd hx hns
    | unset =>
      have e1 : clearF F (i + 1) = F := by simp only [clearF, hx]
      have e3 : (fun k => ((L1.setIfInBounds i (.val v)).setIfInBounds (i + 1) .second)[k]?) = upd (upd (clearF F (i + 1)) i (.val v)) (i + 1) .second := by
        rw [gset _ (by simpa using hi2), g1, e1]
      refine ⟨(L1.setIfInBounds i (.val v)).setIfInBounds (i + 1) .second, ?_, by simp [h2], ?_, e3⟩
      · show setAt _ (i + 1) .second = _
        rw [sa_eq (by simpa using hi2)]
      · have w : WFf (fun k => ((L1.setIfInBounds i (.val v)).setIfInBounds (i + 1) .second)[k]?) := by rw [e3]; exact hWF
        exact w
    | val old =>
      by_cases hc : old.category = 2
      · have q := hWc.1 _ _ hx hc
        have hi3 : i + 2 < L1.size := by
          have q2 : (L1.setIfInBounds i (.val v))[i + 2]? = some .second := by
            have := congrFun g1 (i + 2); simpa [upd, q] using this
          have := (Array.getElem?_eq_some_iff.mp q2).1
          simpa using this
        have e1 : clearF F (i + 1) = upd (upd F (i + 2) .unset) (i + 1) .unset := by simp only [clearF, hx, hc, if_true]
        have e3 : (fun k => (((L1.setIfInBounds i (.val v)).setIfInBounds (i + 2) .unset).setIfInBounds (i + 1) .second)[k]?) = upd (upd (clearF F (i + 1)) i (.val v)) (i + 1) .second := by
          rw [gset _ (by simpa using hi2), gset _ (by simpa using hi3), g1, e1]
          funext k; simp only [upd]
          by_cases a : k = i + 1
          · simp [a]
          · by_cases b : k = i
            · simp [b]
            · simp [a, b]
        refine ⟨((L1.setIfInBounds i (.val v)).setIfInBounds (i + 2) .unset).setIfInBounds (i + 1) .second, ?_, by simp [h2], ?_, e3⟩
        · show (if old.category = 2 then _ else _) = _
          rw [if_pos hc, sa_eq (by simpa using hi3), Option.bind_some, sa_eq (by simpa using hi2)]
        · have w : WFf (fun k => (((L1.setIfInBounds i (.val v)).setIfInBounds (i + 2) .unset).setIfInBounds (i + 1) .second)[k]?) := by rw [e3]; exact hWF
          exact w
      · have e1 : clearF F (i + 1) = upd F (i + 1) .unset := by simp only [clearF, hx, hc, if_false]
        have e3 : (fun k => ((L1.setIfInBounds i (.val v)).setIfInBounds (i + 1) .second)[k]?) = upd (upd (clearF F (i + 1)) i (.val v)) (i + 1) .second := by
          rw [gset _ (by simpa using hi2), g1, e1]
          funext k; simp only [upd]
          by_cases a : k = i + 1
          · simp [a]
          · by_cases b : k = i
            · simp [b]
            · simp [a, b]
        refine ⟨(L1.setIfInBounds i (.val v)).setIfInBounds (i + 1) .second, ?_, by simp [h2], ?_, e3⟩
        · show (if old.category = 2 then _ else _) = _
          rw [if_neg hc, sa_eq (by simpa using hi2)]
        · have w : WFf (fun k => ((L1.setIfInBounds i (.val v)).setIfInBounds (i + 1) .second)[k]?) := by rw [e3]; exact hWF
          exact w
theorem cat_va (ρ : Nat → Nat) (v : Value) : (va ρ v).category = v.category := by cases v <;> rfl
theorem clr_len (ls : Lv) (i : Nat) : (clr ls i).length = ls.length := by
  cases i with
  | zero => rfl
  | succ j => simp only [clr]; split <;> simp
theorem clr_get {ls : Lv} {i k : Nat} {v : Value} (h : (clr ls i)[k]? = some (some v)) : ls[k]? = some (some v) ∧ (k + 1 = i → v.category ≠ 2) := by
  cases i with
  | zero => exact ⟨h, fun q => by omega⟩
  | succ j =>
    simp only [clr] at h
    split at h
    · rename_i x e
      rw [List.getElem?_set] at h
      split at h
      · rename_i hj; subst hj; split at h <;> simp at h
      · rename_i hj; exact ⟨h, fun q => by omega⟩
    · rename_i x e
      rw [List.getElem?_set] at h
      split at h
      · rename_i hj; subst hj; split at h <;> simp at h
      · rename_i hj; exact ⟨h, fun q => by omega⟩
    · rename_i e1 e2
      refine ⟨h, fun q hc => ?_⟩
      have hk : k = j := by omega
      subst hk
      cases v <;> first | exact e1 _ h | exact e2 _ h | (exact Nat.noConfusion (Nat.succ.inj hc))
theorem store_ok {ρ : Nat → Nat} {ls ls' : Lv} {L : Array Slot} {i : Nat} {v : Value} (hL : LR ρ ls L) (hd : ∀ x, v ≠ .double x) (h : stl ls i v = some ls') : ∃ L', storeLocals L i (va ρ v) = some L' ∧ LR ρ ls' L' ∧ L'.size = L.size := by
  obtain ⟨hz, hr, hW⟩ := hL
  have hWf : WFf (fun k => L[k]?) := hW
  by_cases hc : v.category = 2
  · obtain ⟨x, rfl⟩ : ∃ x, v = .long x := by cases v <;> simp [Value.category] at hc <;> first | exact ⟨_, rfl⟩ | exact absurd rfl (hd _)
    simp only [stl] at h
    split at h
    · rename_i hi
      cases h
      obtain ⟨L', a1, a2, a3, a4⟩ := store_two hW (show i + 1 < L.size by omega) (v := va ρ (.long x)) rfl
      refine ⟨L', a1, ⟨by simp [a2, hz, clr_len], fun k w hk => ?_, a3⟩, a2⟩
      have q : L'[k]? = _ := congrFun a4 k
      rw [q]
      rw [List.getElem?_set] at hk
      split at hk
      · simp at hk
      · rename_i hk1
        rw [List.getElem?_set] at hk
        split at hk
        · rename_i hk2; subst hk2
          simp only [clr_len] at hk
          split at hk
          · cases hk; simp [upd]
          · simp at hk
        · rename_i hk2
          obtain ⟨b1, b2⟩ := clr_get hk
          have b3 := hr _ _ b1
          have b4 : clearF (fun k => L[k]?) i k = some (.val (va ρ w)) := clearF_keep hWf (fun q => hk2 q.symm) b3 (fun q => by rw [cat_va]; exact b2 q)
          have b5 := clearF_keep (wff_clear hWf i) (i := i + 1) (fun q => hk1 q.symm) b4 (fun q => absurd (Nat.succ.inj q) fun z => hk2 z.symm)
          simp only [upd, show ¬ k = i + 1 from fun q => hk1 q.symm, show ¬ k = i from fun q => hk2 q.symm, if_false]
          exact b5
    · cases h
  · have hs : stl ls i v = if i < ls.length then some ((clr ls i).set i (some v)) else none := by cases v <;> first | rfl | exact absurd rfl hc
    rw [hs] at h
    split at h
    · rename_i hi
      cases h
      obtain ⟨L', a1, a2, a3, a4⟩ := store_one hW (show i < L.size by omega) (v := va ρ v) (by rw [cat_va]; exact hc)
      refine ⟨L', a1, ⟨by simp [a2, hz, clr_len], fun k w hk => ?_, a3⟩, a2⟩
      have q : L'[k]? = _ := congrFun a4 k
      rw [q]
      rw [List.getElem?_set] at hk
      split at hk
      · rename_i hk2; subst hk2
        simp only [clr_len] at hk
        split at hk
        · cases hk; simp [upd]
        · omega
      · rename_i hk2
        obtain ⟨b1, b2⟩ := clr_get hk
        have b3 := hr _ _ b1
        have b4 : clearF (fun k => L[k]?) i k = some (.val (va ρ w)) := clearF_keep hWf (fun q => hk2 q.symm) b3 (fun q => by rw [cat_va]; exact b2 q)
        simp only [upd, show ¬ k = i from fun q => hk2 q.symm, if_false]
        exact b4
    · cases h
end Jvm.LM

namespace Jvm.LM
open Sem ClassFile Op Lib Jvm.Stand Jvm.Free Jvm.LawKit Jvm.RoadKit
section Pure
variable {p : Program} {l : Launch} {e : Env} {R : Room} {s : State} {m : MethodId} {args : Array Value} {below : List Frame} {meth : Method} {c : Code} {T : State} {locs : List Loc} {cells slots : Nat}
theorem br_eq (cd : ClassFile.Cond) (x y : Int32) (a b : Nat) : br cd x y a b = if if_icmp.holds cd x y = true then a else b := by
  cases cd <;> simp only [br]
  · by_cases h : x = y <;> simp [h, XT.ii_eq_t, XT.ii_eq_f]
  · by_cases h : x = y
    · rw [if_pos h, XT.ii_ne_f h]; rfl
    · rw [if_neg h, XT.ii_ne_t h]; rfl
  · by_cases h : x < y
    · rw [if_pos h, XT.ii_lt_t h]; rfl
    · rw [if_neg h, XT.ii_lt_f h]; rfl
  · by_cases h : x < y
    · rw [if_pos h, XT.ii_ge_f h]; rfl
    · rw [if_neg h, XT.ii_ge_t h]; rfl
  · by_cases h : y < x
    · rw [if_pos h, XT.ii_gt_t h]; rfl
    · rw [if_neg h, XT.ii_gt_f h]; rfl
  · by_cases h : y < x
    · rw [if_pos h, XT.ii_le_f h]; rfl
    · rw [if_neg h, XT.ii_le_t h]; rfl
theorem qstep_sound (X : Stand p l e R s m args below meth c T locs cells slots) (hx : p.tables.exec = Jvm.exec) {ρ : Nat → Nat} {i : Instr} {n pc pc' : Nat} {st st' : List Value}
    (h : qstep i pc st = some (pc', st')) (hd : decode c.code pc = .ok (i, n)) (hn : isSw i = true ∨ n = ilen i) {L : Array Slot} :
    ∀ target, Steps p.tables e below (T.setTop (mkF m pc' L (st'.map (va ρ)))) target → Steps p.tables e below (T.setTop (mkF m pc L (st.map (va ρ)))) target := by
  by_cases hsw : isSw i = true
  · cases i <;> first | exact absurd hsw Bool.false_ne_true | skip
    rename_i d lo hi offs
    simp only [qstep] at h
    split at h
    · rename_i x r
      split at h
      · rename_i e1
        split at h
        · rename_i e2; cases h; exact fun t q => X.tableswitchOut hx (g := mkF m pc L (.int x :: List.map (va ρ) _)) rfl rfl hd e1 e2 t q
        · cases h
      · rename_i e1
        split at h
        · rename_i o e2
          split at h
          · rename_i e3; cases h; exact fun t q => X.tableswitchIn hx (g := mkF m pc L (.int x :: List.map (va ρ) _)) rfl rfl hd e1 e2 e3 t q
          · cases h
        · cases h
    · cases h
  obtain rfl := hn.resolve_left hsw
  unfold qstep at h
  split at h
  -- constants
  · cases h; exact fun t q => XS.iconst X.here hx rfl hd q
  · cases h; exact fun t q => XS.bipush X.here hx rfl hd q
  · cases h; exact fun t q => XS.sipush X.here hx rfl hd q
  · cases h; exact fun t q => XT.lconst X.here hx rfl hd q
  -- ints
  · split at h
    · cases h; exact fun t q => XS.iadd X.here hx rfl hd rfl q
    · cases h
  · split at h
    · cases h; exact fun t q => XS.isub X.here hx rfl hd rfl q
    · cases h
  · split at h
    · cases h; exact fun t q => XS.imul X.here hx rfl hd rfl q
    · cases h
  · split at h
    · cases h; exact fun t q => XS.iand X.here hx rfl hd rfl q
    · cases h
  · split at h
    · cases h; exact fun t q => XT.ior X.here hx rfl hd rfl q
    · cases h
  · split at h
    · cases h; exact fun t q => XT.ixor X.here hx rfl hd rfl q
    · cases h
  · split at h
    · cases h; exact fun t q => XT.ishl X.here hx rfl hd rfl q
    · cases h
  · split at h
    · cases h; exact fun t q => XT.ishr X.here hx rfl hd rfl q
    · cases h
  · split at h
    · cases h; exact fun t q => XT.iushr X.here hx rfl hd rfl q
    · cases h
  · split at h
    · split at h
      · cases h
      · rename_i e1; cases h; exact fun t q => XS.idiv X.here hx rfl hd rfl e1 q
    · cases h
  · split at h
    · split at h
      · cases h
      · rename_i e1; cases h; exact fun t q => iremM X hx rfl hd rfl e1 q
    · cases h
  · split at h
    · cases h; exact fun t q => XS.ineg X.here hx rfl hd rfl q
    · cases h
  -- longs
  · split at h
    · cases h; exact fun t q => XT.ladd X.here hx rfl hd rfl q
    · cases h
  · split at h
    · cases h; exact fun t q => XT.lsub X.here hx rfl hd rfl q
    · cases h
  · split at h
    · cases h; exact fun t q => XT.lmul X.here hx rfl hd rfl q
    · cases h
  · split at h
    · cases h; exact fun t q => XT.land X.here hx rfl hd rfl q
    · cases h
  · split at h
    · cases h; exact fun t q => XT.lor X.here hx rfl hd rfl q
    · cases h
  · split at h
    · cases h; exact fun t q => XT.lxor X.here hx rfl hd rfl q
    · cases h
  · split at h
    · cases h; exact fun t q => XT.lshl X.here hx rfl hd rfl q
    · cases h
  · split at h
    · cases h; exact fun t q => XT.lshr X.here hx rfl hd rfl q
    · cases h
  · split at h
    · cases h; exact fun t q => XT.lushr X.here hx rfl hd rfl q
    · cases h
  · split at h
    · split at h
      · cases h
      · rename_i e1; cases h; exact fun t q => XT.ldiv X.here hx rfl hd rfl e1 q
    · cases h
  · split at h
    · cases h; exact fun t q => XT.lneg X.here hx rfl hd rfl q
    · cases h
  · split at h
    · cases h; exact fun t q => XT.lcmp X.here hx rfl hd rfl q
    · cases h
  · split at h
    · cases h; exact fun t q => XT.i2l X.here hx rfl hd rfl q
    · cases h
  · split at h
    · cases h; exact fun t q => XT.l2i X.here hx rfl hd rfl q
    · cases h
  -- dup, pop
  · split at h
    · cases h; exact fun t q => XS.dup X.here hx rfl hd rfl rfl q
    · cases h; exact fun t q => XS.dup X.here hx rfl hd rfl rfl q
    · cases h
  · split at h
    · cases h; exact fun t q => XT.pop X.here hx rfl hd rfl rfl q
    · cases h; exact fun t q => XT.pop X.here hx rfl hd rfl rfl q
    · cases h
  -- jumps
  · split at h
    · rename_i e1; cases h; exact fun t q => XS.goto X.here hx rfl rfl hd e1 rfl q
    · cases h
  · split at h
    · split at h
      · rename_i e1; cases h
        intro t q
        rw [br_eq] at q
        split at q
        · rename_i e2; exact XS.ifYes X.here hx rfl rfl hd rfl (by rw [if0]; exact e2) e1 rfl q
        · rename_i e2; exact XS.ifNo X.here hx rfl hd rfl (by rw [if0]; simpa using e2) q
      · cases h
    · cases h
  · split at h
    · split at h
      · rename_i e1; cases h
        intro t q
        rw [br_eq] at q
        split at q
        · rename_i e2; exact XS.icmpYes X.here hx rfl rfl hd rfl e2 e1 rfl q
        · rename_i e2; exact XS.icmpNo X.here hx rfl hd rfl (by simpa using e2) q
      · cases h
    · cases h
  · exact absurd rfl hsw
  · cases h
theorem pstep_sound (X : Stand p l e R s m args below meth c T locs cells slots) (hx : p.tables.exec = Jvm.exec) {ρ : Nat → Nat} {i : Instr} {n pc pc' : Nat} {ls ls' : Lv} {st st' : List Value}
    (h : pstep i pc ls st = some (pc', ls', st')) (hd : decode c.code pc = .ok (i, n)) (hn : isSw i = true ∨ n = ilen i) {L : Array Slot} (hL : LR ρ ls L) :
    ∃ L', LR ρ ls' L' ∧ L'.size = L.size ∧ ∀ target, Steps p.tables e below (T.setTop (mkF m pc' L' (st'.map (va ρ)))) target → Steps p.tables e below (T.setTop (mkF m pc L (st.map (va ρ)))) target := by
  by_cases hsw : isSw i = true
  · cases i <;> first | exact absurd hsw Bool.false_ne_true | skip
    simp only [pstep] at h
    split at h
    · rename_i e1; cases h; exact ⟨L, hL, rfl, qstep_sound X hx e1 hd hn⟩
    · cases h
  obtain rfl := hn.resolve_left hsw
  unfold pstep at h
  split at h
  -- loads
  · split at h
    · rename_i e1; cases h; exact ⟨L, hL, rfl, fun t q => XS.iloadN X.here hx rfl hd (hL.2.1 _ _ e1) q⟩
    · cases h
  · split at h
    · rename_i e1; cases h; exact ⟨L, hL, rfl, fun t q => XS.iload X.here hx rfl hd (hL.2.1 _ _ e1) q⟩
    · cases h
  · split at h
    · rename_i e1; cases h; exact ⟨L, hL, rfl, fun t q => XT.lloadN X.here hx rfl hd (hL.2.1 _ _ e1) q⟩
    · cases h
  · split at h
    · rename_i e1; cases h; exact ⟨L, hL, rfl, fun t q => XT.lload X.here hx rfl hd (hL.2.1 _ _ e1) q⟩
    · cases h
  · split at h
    · rename_i e1; cases h; exact ⟨L, hL, rfl, fun t q => XS.aloadN X.here hx rfl hd (hL.2.1 _ _ e1) rfl q⟩
    · cases h
  · split at h
    · rename_i e1; cases h; exact ⟨L, hL, rfl, fun t q => XS.aload X.here hx rfl hd (hL.2.1 _ _ e1) rfl q⟩
    · cases h
  -- stores
  · split at h
    · split at h
      · rename_i e1; cases h
        obtain ⟨L', a1, a2, a3⟩ := store_ok hL (fun x => by simp) e1
        exact ⟨L', a2, a3, fun t q => XS.istoreN X.here hx rfl hd rfl a1 q⟩
      · cases h
    · cases h
  · split at h
    · split at h
      · rename_i e1; cases h
        obtain ⟨L', a1, a2, a3⟩ := store_ok hL (fun x => by simp) e1
        exact ⟨L', a2, a3, fun t q => XS.istore X.here hx rfl hd rfl a1 q⟩
      · cases h
    · cases h
  · split at h
    · split at h
      · rename_i e1; cases h
        obtain ⟨L', a1, a2, a3⟩ := store_ok hL (fun x => by simp) e1
        exact ⟨L', a2, a3, fun t q => XT.lstoreN X.here hx rfl hd rfl a1 q⟩
      · cases h
    · cases h
  · split at h
    · split at h
      · rename_i e1; cases h
        obtain ⟨L', a1, a2, a3⟩ := store_ok hL (fun x => by simp) e1
        exact ⟨L', a2, a3, fun t q => XT.lstore X.here hx rfl hd rfl a1 q⟩
      · cases h
    · cases h
  · split at h
    · split at h
      · rename_i e1; cases h
        obtain ⟨L', a1, a2, a3⟩ := store_ok hL (fun x => by simp) e1
        exact ⟨L', a2, a3, fun t q => XS.astoreN X.here hx rfl hd rfl rfl a1 q⟩
      · cases h
    · cases h
  · split at h
    · split at h
      · rename_i e1; cases h
        obtain ⟨L', a1, a2, a3⟩ := store_ok hL (fun x => by simp) e1
        exact ⟨L', a2, a3, fun t q => XS.astore X.here hx rfl hd rfl rfl a1 q⟩
      · cases h
    · cases h
  · split at h
    · rename_i e0
      split at h
      · rename_i e1; cases h
        obtain ⟨L', a1, a2, a3⟩ := store_ok hL (fun x => by simp) e1
        exact ⟨L', a2, a3, fun t q => XS.iinc X.here hx rfl hd (hL.2.1 _ _ e0) a1 q⟩
      · cases h
    · cases h
  · rename_i hq
    split at h
    · rename_i e1; cases h; exact ⟨L, hL, rfl, qstep_sound X hx e1 hd hn⟩
    · cases h
end Pure
/-! the class's own machine -/
def nd : List Value → Bool
  | [] => true
  | .double _ :: _ => false
  | _ :: r => nd r
theorem nd_spec {as : List Value} (h : nd as = true) : ∀ v ∈ as, ∀ x, v ≠ .double x := by
  induction as with
  | nil => intro v hv; cases hv
  | cons w r ih =>
    intro v hv x e
    rcases List.mem_cons.mp hv with q | q
    · subst q; subst e; cases h
    · refine ih ?_ v q x e
      cases w <;> first | exact h | cases h
def layA : List Value → Lv
  | [] => []
  | .long x :: r => some (.long x) :: none :: layA r
  | v :: r => some v :: layA r
def lay (as : List Value) (n : Nat) : Lv := layA as ++ List.replicate (n - (layA as).length) none
def cats (st : List Value) : Nat := (st.map fun v => v.category).sum
def tyOf : Nat → FieldType
  | 0 => .int
  | 1 => .boolean
  | _ => .long
def atOf : Nat → ArrayType
  | 0 => .int
  | 1 => .boolean
  | _ => .long
def retOf : Nat → Option FieldType
  | 0 => none
  | 1 => some .int
  | 2 => some .boolean
  | _ => some .long
def zs (al : List (Nat × Nat)) (c : Nat) : Nat := ((al.take c).map (·.2)).sum
abbrev Rs := Option (Option Value × St)
def cret (me : Me) (st : List Value) (i : Instr) : Option (Option Value) :=
  match i with
  | .ireturn => match st with
    | [.int x] => if me.rt = 1 then some (some (.int x)) else if me.rt = 2 then some (some (.int (x &&& 1))) else none
    | _ => none
  | .lreturn => match st with
    | [.long x] => if me.rt = 3 then some (some (.long x)) else none
    | _ => none
  | .return_ => match st with
    | [] => if me.rt = 0 then some none else none
    | _ => none
  | _ => none
def isRet : Instr → Bool
  | .ireturn => true
  | .lreturn => true
  | .return_ => true
  | _ => false
def gfld (P : Cl) (x : Nat) (c : Nat) (s : St) : Option Value :=
  match asc P.fx x with
  | none => none
  | some k => match asc P.fs k with
    | none => none
    | some fe => match fe.2.2.1 with
      | 0 => some (.int (gI s 0 k))
      | 1 => some (.int (gI s 0 k))
      | 2 => some (.long (gL s 0 k))
      | j + 3 => if j < c then some (.ref (j + 1)) else none
def pfld (P : Cl) (x : Nat) (ini : Bool) (v : Value) (s : St) : Option St :=
  match asc P.fx x with
  | none => none
  | some k => match asc P.fs k with
    | none => none
    | some fe => if fe.2.2.2 = true ∧ ini = false then none else
      match fe.2.2.1, v with
      | 0, .int z => some (sI s 0 k z)
      | 1, .int z => some (sI s 0 k (z &&& 1))
      | 2, .long z => some (sL s 0 k z)
      | _, _ => none
def newF (P : Cl) (t : ArrayType) (cd : Cd) (pc c : Nat) (st : List Value) : Bool :=
  match st with
  | [.int n, .ref 0] => match fetch cd (pc + 2) with
    | some (.putfield x, 3) => match asc P.fx x with
      | some k => match asc P.fs k with
        | some fe => match P.al[c]? with
          | some (tt, N) => decide (fe.2.2.1 = c + 3 ∧ t = atOf tt ∧ 0 ≤ n.toInt ∧ n.toInt = N ∧ N < 1000000)
          | none => false
        | none => false
      | none => false
    | _ => false
  | _ => false
def lda (P : Cl) (tt c : Nat) (st : List Value) (s : St) : Option (List Value) :=
  match st with
  | .int i :: .ref (a + 1) :: r => match P.al[a]? with
    | some (t2, N) => if t2 = tt ∧ a < c then (if inb N i then some ((if tt = 2 then .long (gL s (a + 1) (ix i)) else .int (gI s (a + 1) (ix i))) :: r) else none) else none
    | none => none
  | _ => none
def sta (P : Cl) (tt c : Nat) (st : List Value) (s : St) : Option (List Value × St) :=
  match st with
  | v :: .int i :: .ref (a + 1) :: r => match P.al[a]? with
    | some (t2, N) => if t2 = tt ∧ a < c then (if inb N i then (match tt, v with
        | 0, .int z => some (r, sI s (a + 1) (ix i) z)
        | 1, .int z => some (r, sI s (a + 1) (ix i) (z &&& 1))
        | 2, .long z => some (r, sL s (a + 1) (ix i) z)
        | _, _ => none) else none) else none
    | none => none
  | _ => none
def cstep {α : Type} (P : Cl) (mi : Nat) (me : Me) (rt : Option Value → St → Option α) (cl : Nat → Nat → List Value → St → Rs) (k : Nat → Nat → Lv → List Value → St → Option α) (i : Instr) (c pc : Nat) (ls : Lv) (st : List Value) (s : St) : Option α :=
  match i with
  | .getfield x => match st with
    | .ref 0 :: r => (match gfld P x c s with | some v => k c (pc + 3) ls (v :: r) s | none => none)
    | _ => none
  | .putfield x => match st with
    | v :: .ref 0 :: r => (match pfld P x (mi == 0) v s with | some s' => k c (pc + 3) ls r s' | none => none)
    | _ => none
  | .iaload => match lda P 0 c st s with | some st' => k c (pc + 1) ls st' s | none => none
  | .baload => match lda P 1 c st s with | some st' => k c (pc + 1) ls st' s | none => none
  | .laload => match lda P 2 c st s with | some st' => k c (pc + 1) ls st' s | none => none
  | .iastore => match sta P 0 c st s with | some (st', s') => k c (pc + 1) ls st' s' | none => none
  | .bastore => match sta P 1 c st s with | some (st', s') => k c (pc + 1) ls st' s' | none => none
  | .lastore => match sta P 2 c st s with | some (st', s') => k c (pc + 1) ls st' s' | none => none
  | .newarray t => if mi = 0 ∧ newF P t me.cd pc c st = true then k (c + 1) (pc + 5) ls [] s else none
  | .ldc x => match asc P.kx x with | some (.int z) => k c (pc + 2) ls (.int z :: st) s | _ => none
  | .ldc2_w x => match asc P.kx x with | some (.long z) => k c (pc + 3) ls (.long z :: st) s | _ => none
  | .invokespecial x => match st with
    | .ref 0 :: r => if x = P.oi ∧ 1 ≤ me.rf ∧ cats r + 12 ≤ me.rl then k c (pc + 3) ls r s else none
    | _ => none
  | .invokevirtual x => match asc P.mx x with
    | none => none
    | some m' => match asc P.ms m' with
      | none => none
      | some me' => match st.drop me'.na with
        | .ref 0 :: r => if m' ≠ 0 ∧ me'.rf + 1 ≤ me.rf ∧ cats r + (me'.ml + 11) + me'.rl ≤ me.rl ∧ nd (st.take me'.na) = true then
            (match cl m' c (.ref 0 :: (st.take me'.na).reverse) s with
             | some (none, s') => k c (pc + 3) ls r s'
             | some (some v, s') => k c (pc + 3) ls (v :: r) s'
             | none => none) else none
        | _ => none
  | i => if isRet i = true then (if mi = 0 ∧ c ≠ P.al.length then none else match cret me st i with | some v => rt v s | none => none)
    else match pstep i pc ls st with | some (pc', ls', st') => k c pc' ls' st' s | none => none
def cexec (P : Cl) : Nat → Nat → Me → Nat → Nat → Lv → List Value → St → Rs
  | 0, _, _, _, _, _, _, _ => none
  | f + 1, mi, me, c, pc, ls, st, s => match fetch me.cd pc with
    | none => none
    | some (i, _) => cstep P mi me (fun v s => some (v, s)) (fun m' c as s => match asc P.ms m' with | some me' => (if (layA as).length ≤ me'.ml then cexec P f m' me' c 0 (lay as me'.ml) [] s else none) | none => none) (cexec P f mi me) i c pc ls st s
def ccall (P : Cl) (f m' c : Nat) (as : List Value) (s : St) : Rs := match asc P.ms m' with | some me' => (if (layA as).length ≤ me'.ml then cexec P f m' me' c 0 (lay as me'.ml) [] s else none) | none => none
end Jvm.LM

namespace Jvm.LM
open Sem ClassFile Op Lib Jvm.Stand Jvm.Free Jvm.LawKit Jvm.RoadKit
/-! how the machine's state stands in the heap -/
theorem adr_ne (a j : Nat) : a + (j + 1) ≠ a := by omega
theorem adr_ne' (a j : Nat) : a ≠ a + (j + 1) := by omega
theorem adr_ne2 (a : Nat) {j k : Nat} (h : j ≠ k) : a + (j + 1) ≠ a + (k + 1) := by omega
def Fval (adr c : Nat) (s : St) (k : Nat) (fe : Fe) : Value :=
  match fe.2.2.1 with
  | 0 => .int (gI s 0 k)
  | 1 => .int (gI s 0 k)
  | 2 => .long (gL s 0 k)
  | j + 3 => if j < c then .ref (adr + (j + 1)) else .null
def elv (tt : Nat) (s : St) (j i : Nat) : Value := if tt = 2 then .long (gL s j i) else .int (gI s j i)
def ARep (Z : State) (h : Heap) (a tt N : Nat) (s : St) (j : Nat) : Prop :=
  ∃ cl : Cell, Arr Z h a cl (tyOf tt) ∧ cl.slots.size = N ∧ ∀ i, i < N → cl.slots[i]? = some (elv tt s j i)
def HRep (P : Cl) (Z : State) (h : Heap) (adr c : Nat) (s : St) : Prop :=
  Exa Z h adr P.nm ∧ (∀ k fe, asc P.fs k = some fe → Fld Z h adr P.nm fe.1 fe.2.1 (Fval adr c s k fe)) ∧
  (∀ (j tt N : Nat), P.al[j]? = some (tt, N) → j < c → ARep Z h (adr + (j + 1)) tt N s (j + 1)) ∧
  (∀ j i, c < j → gI s j i = 0 ∧ gL s j i = 0) ∧ c ≤ P.al.length
def fkTy (P : Cl) : Nat → FieldType
  | 0 => .int
  | 1 => .boolean
  | 2 => .long
  | j + 3 => .array (tyOf ((P.al[j]?.map (·.1)).getD 0))
def yOf (P : Cl) (me : Me) : MethodName := ⟨P.nm, me.nm, me.ds⟩
def LinkC (P : Cl) (Z : State) (a0 : Array Value) : Prop :=
  ((∃ nF, (Cond.instantiable P.nm nF).before a0 Z = true) ∧ (Cond.initialized P.nm).before a0 Z = true) ∧
  (∀ x k, asc P.fx x = some k → ∀ fe, asc P.fs k = some fe → (Cond.fieldLink P.nm x P.nm fe.1 fe.2.1).before a0 Z = true) ∧
  (∀ k fe, asc P.fs k = some fe → (if fe.2.2.2 = true then Cond.laysFinal P.nm P.nm fe.1 fe.2.1 else Cond.lays P.nm P.nm fe.1 fe.2.1).before a0 Z = true) ∧
  (∀ k fe, asc P.fs k = some fe → parseFieldDescriptor fe.2.1 = some (fkTy P fe.2.2.1)) ∧
  (∀ k k' fe fe', asc P.fs k = some fe → asc P.fs k' = some fe' → k ≠ k' → fe.1 ≠ fe'.1 ∧ (3 ≤ fe.2.2.1 → fe.2.2.1 ≠ fe'.2.2.1)) ∧
  (∀ (j tt N : Nat), P.al[j]? = some (tt, N) → tt ≤ 2 ∧ (Cond.arrayClass (tyOf tt)).before a0 Z = true) ∧
  (∀ x v, asc P.kx x = some v → match v with
    | .int z => (Cond.constant P.nm x z).before a0 Z = true
    | .long z => (Cond.constantLong P.nm x z).before a0 Z = true
    | _ => True) ∧
  ((Cond.methodLink P.nm P.oi Lib.objectInit).before a0 Z = true ∧ (Cond.instanceMethod Lib.objectInit).before a0 Z = true ∧ (Cond.code Lib.objectInit ⟨#[0xb1]⟩ 1 none).before a0 Z = true) ∧
  (∀ mi me, asc P.ms mi = some me → ∃ (bytes : ByteArray) (ps : List FieldType), (Cond.code (yOf P me) bytes me.ml (retOf me.rt)).before a0 Z = true ∧
    (∀ pc i n, fetch me.cd pc = some (i, n) → decode bytes pc = .ok (i, n) ∧ (isSw i = true ∨ n = ilen i)) ∧ parseMethodDescriptor me.ds = some ⟨ps, retOf me.rt⟩ ∧ ps.length = me.na) ∧
  (∀ x mi, asc P.mx x = some mi → ∀ me, asc P.ms mi = some me → (Cond.methodLink P.nm x (yOf P me)).before a0 Z = true ∧ (Cond.instanceMethod (yOf P me)).before a0 Z = true ∧
    ((Cond.privateMethod (yOf P me)).before a0 Z = true ∨ ((Cond.declares (yOf P me)).before a0 Z = true ∧ (Cond.selects P.nm (yOf P me) (yOf P me)).before a0 Z = true))) ∧
  plainName P.nm = true ∧ (P.nm ≠ "java/lang/invoke/MethodHandle" ∧ P.nm ≠ "java/lang/invoke/VarHandle") ∧ (∀ me, asc P.ms 0 = some me → me.nm = "<init>")
theorem gI_sI (s : St) (c j : Nat) (v : Int32) (a b : Nat) : gI (sI s c j v) a b = if a = c ∧ b = j then v else gI s a b := rfl
theorem gL_sI (s : St) (c j : Nat) (v : Int32) (a b : Nat) : gL (sI s c j v) a b = gL s a b := rfl
theorem gI_sL (s : St) (c j : Nat) (v : Int64) (a b : Nat) : gI (sL s c j v) a b = gI s a b := rfl
theorem gL_sL (s : St) (c j : Nat) (v : Int64) (a b : Nat) : gL (sL s c j v) a b = if a = c ∧ b = j then v else gL s a b := rfl
theorem laid_of {P : Cl} {Z : State} {a0 : Array Value} (LK : LinkC P Z a0) {k : Nat} {fe : Fe} (hk : asc P.fs k = some fe) : Laid Z a0 P.nm P.nm fe.1 fe.2.1 := by
  have q := LK.2.2.1 k fe hk
  split at q
  · exact Or.inr q
  · exact Or.inl q
/-- a heap that is alike where the object lies -/
theorem HRep.congr {P : Cl} {Z : State} {h h' : Heap} {adr c : Nat} {s : St} (H : HRep P Z h adr c s) (e : ∀ x, adr ≤ x → x < adr + 1 + P.al.length → h'[x]? = h[x]?) : HRep P Z h' adr c s := by
  obtain ⟨h1, h2, h3, h4, h5⟩ := H
  have ea : h'[adr]? = h[adr]? := e adr (Nat.le_refl _) (by omega)
  refine ⟨?_, fun k fe hk => ?_, fun j tt N hj hc => ?_, h4, h5⟩
  · obtain ⟨cell, k, q1, r⟩ := h1; exact ⟨cell, k, by rw [ea]; exact q1, r⟩
  · obtain ⟨cell, cf, k, i, f, q1, r⟩ := h2 k fe hk; exact ⟨cell, cf, k, i, f, by rw [ea]; exact q1, r⟩
  · obtain ⟨cl, ⟨q1, q2⟩, q3⟩ := h3 j tt N hj hc
    exact ⟨cl, ⟨by rw [e _ (by omega) (by omega)]; exact q1, q2⟩, q3⟩
theorem HRep.putFld {P : Cl} {Z : State} {a0 : Array Value} (LK : LinkC P Z a0) {h h' : Heap} {adr c k : Nat} {fe : Fe} {s s' : St} {v : Value} (H : HRep P Z h adr c s) (hk : asc P.fs k = some fe)
    (W : Wr h h' adr (RoadKit.slotOf Z P.nm fe.1 fe.2.1) v) (hv : v = Fval adr c s' k fe) (hI : ∀ a b, (a ≠ 0 ∨ b ≠ k) → gI s' a b = gI s a b ∧ gL s' a b = gL s a b) : HRep P Z h' adr c s' := by
  obtain ⟨h1, h2, h3, h4, h5⟩ := H
  refine ⟨h1.wr W, fun k2 fe2 hk2 => ?_, fun j tt N hj hc => ?_, fun j i hj => ?_, h5⟩
  · by_cases e : k2 = k
    · subst e; cases hk.symm.trans hk2
      rw [← hv]; exact (h2 _ _ hk).same W
    · have hne := (LK.2.2.2.2.1 _ _ _ _ hk2 hk e).1
      have q := (h2 _ _ hk2).other W (Or.inr (slot_ne (laid_of LK hk2) (laid_of LK hk) hne (LK.2.2.2.1 _ _ hk2) (LK.2.2.2.1 _ _ hk)))
      have e2 : Fval adr c s' k2 fe2 = Fval adr c s k2 fe2 := by
        have := hI 0 k2 (Or.inr e)
        simp only [Fval]; split <;> simp [this.1, this.2]
      rw [e2]; exact q
  · obtain ⟨cl, q1, q2, q3⟩ := h3 j tt N hj hc
    refine ⟨cl, q1.other W (adr_ne _ _), q2, fun i hi => ?_⟩
    have := hI (j + 1) i (Or.inl (by omega))
    rw [q3 i hi]; simp only [elv, this.1, this.2]
  · have := hI j i (Or.inl (by omega))
    rw [this.1, this.2]; exact h4 j i hj
theorem HRep.putArr {P : Cl} {Z : State} {h h' : Heap} {adr c a tt N n : Nat} {s s' : St} {v : Value} (H : HRep P Z h adr c s) (ha : P.al[a]? = some (tt, N)) (hac : a < c) (hn : n < N)
    (W : Wr h h' (adr + (a + 1)) n v) (hv : v = elv tt s' (a + 1) n) (hI : ∀ x y, (x ≠ a + 1 ∨ y ≠ n) → gI s' x y = gI s x y ∧ gL s' x y = gL s x y) : HRep P Z h' adr c s' := by
  obtain ⟨h1, h2, h3, h4, h5⟩ := H
  refine ⟨h1.wr W, fun k fe hk => ?_, fun j tt2 N2 hj hc => ?_, fun j i hj => ?_, h5⟩
  · have q := (h2 _ _ hk).other W (Or.inl (adr_ne' _ _))
    have e2 : Fval adr c s' k fe = Fval adr c s k fe := by
      have := hI 0 k (Or.inl (by omega))
      simp only [Fval]; split <;> simp [this.1, this.2]
    rw [e2]; exact q
  · obtain ⟨cl, q1, q2, q3⟩ := h3 j tt2 N2 hj hc
    by_cases e : j = a
    · subst e; cases ha.symm.trans hj
      refine ⟨cl.setSlot n v, q1.same W, by rw [sz_set]; exact q2, fun i hi => ?_⟩
      by_cases ei : i = n
      · subst ei; rw [← hv]; simp [Cell.setSlot, q2, hi]
      · have := hI (j + 1) i (Or.inr ei)
        have q4 := q3 i hi
        simp only [elv, this.1, this.2] at q4 ⊢
        simp only [Cell.setSlot]
        rw [Array.getElem?_setIfInBounds_ne (fun q => ei q.symm)]; exact q4
    · refine ⟨cl, q1.other W (adr_ne2 _ e), q2, fun i hi => ?_⟩
      have := hI (j + 1) i (Or.inl (by omega))
      rw [q3 i hi]; simp only [elv, this.1, this.2]
  · have := hI j i (Or.inl (by omega))
    rw [this.1, this.2]; exact h4 j i hj
theorem HRep.newArr {P : Cl} {Z : State} {a0 : Array Value} (LK : LinkC P Z a0) {h h1 h2 : Heap} {adr c k tt N : Nat} {fe : Fe} {s : St} {n : Int32} {cA : ClassId} (H : HRep P Z h adr c s) (hk : asc P.fs k = some fe) (hkd : fe.2.2.1 = c + 3)
    (ha : P.al[c]? = some (tt, N)) (hn0 : 0 ≤ n.toInt) (hn : n.toInt = N) (hsz : h.size = adr + 1 + c) (E : Ext h h1) (A : Arr Z h1 h.size (newA cA (tyOf tt) n) (tyOf tt)) (W : Wr h1 h2 adr (RoadKit.slotOf Z P.nm fe.1 fe.2.1) (.ref h.size)) : HRep P Z h2 adr (c + 1) s := by
  obtain ⟨g1, g2, g3, g4, g5⟩ := H
  have hc : c < P.al.length := (List.getElem?_eq_some_iff.mp ha).1
  have hNn : n.toNatClampNeg = N := by simp only [Int32.toNatClampNeg]; omega
  have htt := (LK.2.2.2.2.2.1 _ _ _ ha).1
  refine ⟨(g1.ext E).wr W, fun k2 fe2 hk2 => ?_, fun j tt2 N2 hj hjc => ?_, fun j i hj => g4 j i (by omega), hc⟩
  · by_cases e : k2 = k
    · subst e; cases hk.symm.trans hk2
      have q := ((g2 _ _ hk).ext E).same W
      have e2 : Fval adr (c + 1) s k2 fe = .ref h.size := by simp only [Fval, hkd]; rw [if_pos (Nat.lt_succ_self c), hsz]; exact congrArg Value.ref (show adr + (c + 1) = adr + 1 + c by omega)
      rw [e2]; exact q
    · have hne := LK.2.2.2.2.1 _ _ _ _ hk2 hk e
      have q := ((g2 _ _ hk2).ext E).other W (Or.inr (slot_ne (laid_of LK hk2) (laid_of LK hk) hne.1 (LK.2.2.2.1 _ _ hk2) (LK.2.2.2.1 _ _ hk)))
      have e2 : Fval adr (c + 1) s k2 fe2 = Fval adr c s k2 fe2 := by
        simp only [Fval]; split
        · rfl
        · rfl
        · rfl
        · rename_i j hj
          have : j ≠ c := fun q => (hne.2 (by rw [hj]; omega)) (by rw [hj, hkd, q])
          by_cases b : j < c
          · rw [if_pos b, if_pos (by omega)]
          · rw [if_neg b, if_neg (by omega)]
      rw [e2]; exact q
  · by_cases e : j = c
    · subst e; cases ha.symm.trans hj
      have hA : Arr Z h2 h.size (newA cA (tyOf tt) n) (tyOf tt) := A.other W (show h.size ≠ adr by omega)
      refine ⟨newA cA (tyOf tt) n, by rw [show adr + (j + 1) = h.size by omega]; exact hA, by rw [sz_new]; exact hNn, fun i hi => ?_⟩
      have z := g4 (j + 1) i (by omega)
      simp only [newA, hNn, elv, z.1, z.2]
      rw [Array.getElem?_replicate, if_pos hi]
      have : tt = 0 ∨ tt = 1 ∨ tt = 2 := by omega
      rcases this with rfl | rfl | rfl <;> rfl
    · obtain ⟨cl, q1, q2, q3⟩ := g3 j tt2 N2 hj (by omega)
      exact ⟨cl, (q1.ext E).other W (adr_ne _ _), q2, q3⟩
/-- outside the object nothing moves -/
def Kp (h0 h : Heap) (adr n : Nat) : Prop := ∀ x, (x < adr ∨ adr + 1 + n ≤ x) → h[x]? = h0[x]?
theorem Kp.wr {h0 h h' : Heap} {adr n a sl : Nat} {v : Value} (K : Kp h0 h adr n) (W : Wr h h' a sl v) (h1 : adr ≤ a) (h2 : a < adr + 1 + n) : Kp h0 h' adr n := fun x hx => by
  obtain ⟨cell, q1, q2, q3, rfl⟩ := W
  rw [Array.getElem?_setIfInBounds_ne (by omega)]; exact K x hx
theorem Kp.ext {h0 h h' : Heap} {adr n : Nat} (K : Kp h0 h adr n) (E : Ext h h') (h1 : h'.size ≤ adr + 1 + n) (h2 : adr ≤ h.size) : Kp h0 h' adr n := fun x hx => by
  rw [← K x hx]
  by_cases b : x < h.size
  · obtain ⟨c, hc⟩ : ∃ c, h[x]? = some c := ⟨h[x], Array.getElem?_eq_getElem b⟩
    rw [hc]; exact E.2 _ _ hc
  · rw [Array.getElem?_eq_none (by omega), Array.getElem?_eq_none (by omega)]
theorem Kp.trans {h0 h h' : Heap} {adr n : Nat} (K : Kp h0 h adr n) (K' : Kp h h' adr n) : Kp h0 h' adr n := fun x hx => (K' x hx).trans (K x hx)
def cRoom (P : Cl) (mi : Nat) (me : Me) : Room := { frames := me.rf, cells := if mi = 0 then P.al.length else 0, slots := if mi = 0 then zs P.al P.al.length else 0, locals := me.rl }
def QC (P : Cl) (Z : State) (n0 adr mi c : Nat) (w : Option Value) (s' : St) (h0 : Heap) (v : Option Value) (h : Heap) (L : List Loc) : Prop :=
  (v = w ∧ ∀ ρ, v.toList.map (va ρ) = v.toList) ∧ Fr n0 L ∧ HRep P Z h adr (if mi = 0 then P.al.length else c) s' ∧ Kp h0 h adr P.al.length ∧ h.size = (if mi = 0 then adr + 1 + P.al.length else h0.size)
/-- the run from S ends, and so -/
def Don (p : Program) (e : Env) (below : List Frame) (s₀ : State) (rm : Room) (Q : Option Value → Heap → List Loc → Prop) (S : State) : Prop :=
  ∃ s₂ o, Steps p.tables e below S s₂ ∧ s₂.status = .running ∧ Ended s₂ below o ∧ ∃ v L, o = .returned v ∧ Q v s₂.heap L ∧ FrameEnd s₀ o s₂ L rm.cells rm.slots
theorem Don.step {p : Program} {e : Env} {below : List Frame} {s₀ : State} {rm : Room} {Q : Option Value → Heap → List Loc → Prop} {S S' : State} (h : ∀ t, Steps p.tables e below S' t → Steps p.tables e below S t) (D : Don p e below s₀ rm Q S') : Don p e below s₀ rm Q S := by
  obtain ⟨s₂, o, h1, h2⟩ := D; exact ⟨s₂, o, h _ h1, h2⟩
def Inv (P : Cl) (Z : State) (n0 adr mi c : Nat) (s : St) (h0 h : Heap) (locs : List Loc) : Prop :=
  HRep P Z h adr c s ∧ Fr n0 locs ∧ Kp h0 h adr P.al.length ∧ h.size = (if mi = 0 then adr + 1 + c else h0.size)
def co (mi c : Nat) : Nat := if mi = 0 then c else 0
def zo (P : Cl) (mi c : Nat) : Nat := if mi = 0 then zs P.al c else 0
/-- what the walk of a body is to show, at a given fuel -/
def CW (P : Cl) (Z : State) (n0 adr f mi : Nat) (me : Me) : Prop :=
  ∀ (p : Program) (l : Launch) (e : Env) (s₀ : State) (m : MethodId) (args : Array Value) (below : List Frame) (meth : Method) (cd : Code) (T : State) (locs : List Loc) (h0 : Heap) (c pc : Nat) (ls : Lv) (st : List Value) (s : St) (v : Option Value) (s' : St) (L : Array Slot),
    p.tables.exec = Jvm.exec → Z.Warmed39 s₀.vm → s₀.vm.findClass P.nm = some m.cls → meth.name = me.nm → meth.sig.returnType = retOf me.rt → cd.maxLocals = me.ml → meth.locks = false → (mi = 0 → s₀.heap.size = adr + 1) →
    (∀ pc i n, fetch me.cd pc = some (i, n) → decode cd.code pc = .ok (i, n) ∧ (isSw i = true ∨ n = ilen i)) →
    cexec P f mi me c pc ls st s = some (v, s') →
    Stand p l e (cRoom P mi me) s₀ m args below meth cd T locs (co mi c) (zo P mi c) →
    Inv P Z n0 adr mi c s h0 T.heap locs → LR (adr + ·) ls L → ls.length = me.ml →
    Don p e below s₀ (cRoom P mi me) (QC P Z n0 adr mi c v s' h0) (T.setTop (mkF m pc L (st.map (va (adr + ·)))))
theorem zs_mono (al : List (Nat × Nat)) {a b : Nat} (h : a ≤ b) : zs al a ≤ zs al b := by
  obtain ⟨d, rfl⟩ := Nat.le.dest h
  simp only [zs]
  rw [List.take_add, List.map_append, List.sum_append]; omega
theorem zs_succ (al : List (Nat × Nat)) {c tt N : Nat} (h : al[c]? = some (tt, N)) : zs al (c + 1) = zs al c + N := by
  simp only [zs, List.take_add_one, h]; simp
theorem zs_le (al : List (Nat × Nat)) (a : Nat) : zs al a ≤ zs al al.length := by
  by_cases h : a ≤ al.length
  · exact zs_mono al h
  · simp only [zs]; rw [List.take_of_length_le (by omega), List.take_of_length_le (Nat.le_refl _)]
    exact Nat.le_refl _
theorem narrow_I (z : Int32) : narrow .int (.int z) = .int z := rfl
theorem inb_not {n : Nat} {i : Int32} (h : inb n i) : ¬ (i < 0 ∨ n ≤ i.toNatClampNeg) := by
  intro q
  simp only [Int32.lt_iff_toInt_lt, Int32.toNatClampNeg, Int32.reduceToInt] at q
  have := h.1; have := h.2
  omega
theorem inb_ix {n : Nat} {i : Int32} (h : inb n i) : ix i < n := by
  have := h.1; have := h.2
  simp only [ix, Int32.toNatClampNeg]; omega
end Jvm.LM

namespace Jvm.LM
open Sem ClassFile Op Lib Jvm.Stand Jvm.Free Jvm.LawKit Jvm.RoadKit
/-! entering a method -/
def slA : List Value → List Slot
  | [] => []
  | v :: r => if v.category = 2 then .val v :: .second :: slA r else .val v :: slA r
theorem foldl_slA (as : List Value) (acc : Array Slot) : as.foldl (fun acc v => if v.category = 2 then (acc.push (.val v)).push .second else acc.push (.val v)) acc = acc ++ (slA as).toArray := by
  induction as generalizing acc with
  | nil => simp [slA]
  | cons v r ih =>
    rw [List.foldl_cons, ih]
    simp only [slA]
    split <;> simp
theorem al_eq (args : Array Value) (n : Nat) : argsToLocals args n = (let filled := args.foldl (init := #[]) fun acc v => if v.category = 2 then (acc.push (.val v)).push .second else acc.push (.val v); filled ++ Array.replicate (n - filled.size) .unset) := rfl
theorem atl_eq (as : List Value) (n : Nat) : argsToLocals as.toArray n = (slA as ++ List.replicate (n - (slA as).length) Slot.unset).toArray := by
  rw [al_eq]
  have : Array.foldl (fun acc v => if v.category = 2 then (acc.push (Slot.val v)).push .second else acc.push (.val v)) #[] as.toArray = (slA as).toArray := by
    rw [List.foldl_toArray, foldl_slA]; simp
  simp only [this]
  simp
theorem wfl_one {x : Slot} {l : List Slot} (h : WFf (fun k => l[k]?)) (hx : x ≠ .second) (hc : ∀ v, x = .val v → v.category ≠ 2) : WFf (fun k => (x :: l)[k]?) := by
  obtain ⟨h1, h2, h3⟩ := h
  refine ⟨fun k v hk hv => ?_, fun k hk => ?_, ?_⟩
  · cases k with
    | zero => simp at hk; exact absurd hv (hc v hk)
    | succ k => simp at hk ⊢; exact h1 k v hk hv
  · cases k with
    | zero => simp at hk; exact absurd (by simpa using hk) h3
    | succ k => simp at hk ⊢; exact h2 k (by simpa using hk)
  · simpa using hx
theorem wfl_two {v : Value} {l : List Slot} (h : WFf (fun k => l[k]?)) (hc : v.category = 2) : WFf (fun k => (Slot.val v :: .second :: l)[k]?) := by
  obtain ⟨h1, h2, h3⟩ := h
  refine ⟨fun k w hk hv => ?_, fun k hk => ?_, by simp⟩
  · match k with
    | 0 => simp
    | 1 => simp at hk
    | k + 2 => simp at hk ⊢; exact h1 k w hk hv
  · match k with
    | 0 => exact ⟨v, by simp, hc⟩
    | 1 => exact absurd (by simpa using hk) h3
    | k + 2 => simp at hk ⊢; exact h2 k (by simpa using hk)
theorem wfl_rep (n : Nat) : WFf (fun k => (List.replicate n Slot.unset)[k]?) := by
  refine ⟨fun k v hk _ => ?_, fun k hk => ?_, ?_⟩
  · simp [List.getElem?_replicate] at hk
  · simp [List.getElem?_replicate] at hk
  · simp [List.getElem?_replicate]
theorem wfl_slA (as : List Value) (r : List Slot) (h : WFf (fun k => r[k]?)) : WFf (fun k => (slA as ++ r)[k]?) := by
  induction as with
  | nil => simpa [slA] using h
  | cons v t ih =>
    simp only [slA]
    split
    · rename_i hc; exact wfl_two ih hc
    · rename_i hc; exact wfl_one ih (by simp) (fun w hw => by cases hw; exact hc)
theorem slA_len (ρ : Nat → Nat) (as : List Value) (hd : ∀ v ∈ as, ∀ x, v ≠ .double x) : (slA (as.map (va ρ))).length = (layA as).length := by
  induction as with
  | nil => rfl
  | cons v t ih =>
    have ih := ih fun w hw => hd w (List.mem_cons_of_mem _ hw)
    cases v <;> simp [slA, layA, va, Value.category, ih]
    exact absurd rfl (hd _ (List.mem_cons_self ..) _)
theorem layA_get {ρ : Nat → Nat} {as : List Value} (hd : ∀ v ∈ as, ∀ x, v ≠ .double x) {k : Nat} {w : Value} (h : (layA as)[k]? = some (some w)) : (slA (as.map (va ρ)))[k]? = some (.val (va ρ w)) := by
  induction as generalizing k with
  | nil => simp [layA] at h
  | cons v t ih =>
    have ih' := fun {k} => ih (k := k) fun w hw => hd w (List.mem_cons_of_mem _ hw)
    cases v
    case long x =>
      simp only [layA] at h
      match k with
      | 0 => simp at h; subst h; simp [slA, va, Value.category]
      | 1 => simp at h
      | k + 2 => simp at h; simpa [slA, va, Value.category] using ih' h
    case double x => exact absurd rfl (hd _ (List.mem_cons_self ..) _)
    all_goals
      simp only [layA] at h
      match k with
      | 0 => simp at h; subst h; simp [slA, va, Value.category]
      | k + 1 => simp at h; simpa [slA, va, Value.category] using ih' h
theorem lay_LR {ρ : Nat → Nat} {as : List Value} (hd : ∀ v ∈ as, ∀ x, v ≠ .double x) {n : Nat} (hn : (layA as).length ≤ n) : LR ρ (lay as n) (argsToLocals (as.map (va ρ)).toArray n) := by
  rw [atl_eq]
  have hl := slA_len ρ as hd
  refine ⟨by simp [lay, hl], fun k w hk => ?_, ?_⟩
  · simp only [lay] at hk
    rw [List.getElem?_append] at hk
    split at hk
    · have := layA_get (ρ := ρ) hd hk
      rw [List.getElem?_toArray, List.getElem?_append_left (by omega)]; exact this
    · simp [List.getElem?_replicate] at hk
  · have := wfl_slA (as.map (va ρ)) (List.replicate (n - (slA (as.map (va ρ))).length) Slot.unset) (wfl_rep _)
    have q : WFf (fun k => ((slA (as.map (va ρ)) ++ List.replicate (n - (slA (as.map (va ρ))).length) Slot.unset).toArray)[k]?) := by
      simpa using this
    exact q
theorem lay_len {as : List Value} {n : Nat} (hn : (layA as).length ≤ n) : (lay as n).length = n := by simp [lay]; omega
section Call
variable {p : Program} {l : Launch} {e : Env} {R : Room} {s : State} {m : MethodId} {args : Array Value} {below : List Frame} {meth : Method} {c : Code} {T : State} {locs : List Loc} {cells slots : Nat}
/-- a private method of a class that is no interface -/
theorem privCall (X : Stand p l e R s m args below meth c T locs cells slots) (hexec : p.tables.exec = Jvm.exec) {own : String} {index : Nat} {y : MethodName} {bytes : ByteArray} {maxL nF : Nat} {ret : Option FieldType}
    (hown : s.vm.findClass own = some m.cls) (hlink : (Cond.methodLink own index y).before args s = true) (hinst : (Cond.instanceMethod y).before args s = true) (hi : (Cond.instantiable y.cls nF).before args s = true)
    (hpriv : s.PrivateAt y) (hcode : (Cond.code y bytes maxL ret).before args s = true) (hy : y.cls ≠ "java/lang/invoke/MethodHandle" ∧ y.cls ≠ "java/lang/invoke/VarHandle")
    {W : Nat} {Pre : Free.Pt → Array Value → Prop} {Post : Free.Pt → Array Value → Option Value → Free.Pt → Prop} (hK : Free.Back l R p e below s args y 3 W Pre Post)
    {g : JFrame} (hg : g.method = m) (hsize : g.locals.size = c.maxLocals) {a : Addr} {cell : Cell} (hcell : T.heap[a]? = some cell) (hobj : ∀ q, cell.vm ≠ .statics q)
    {argsL rest : List Value} (hlen : ∀ sig, parseMethodDescriptor y.desc = some sig → argsL.length = sig.parameters.length)
    (hstack : g.stack = argsL.reverse ++ .ref a :: rest) (hW : 2 * g.monitorRoom + (rest.map fun v => v.category).sum ≤ W) (hdg : decode c.code g.pc = .ok (.invokevirtual index, 3))
    (hpre : ∀ vm₁, s.WarmedH vm₁ → Pre ⟨T.setVm vm₁, locs, cells, slots⟩ (.ref a :: argsL).toArray) :
    ∃ (v : Option Value) (vm₁ : Vm) (B : Free.Pt), s.WarmedH vm₁ ∧ Stand p l e R s m args below meth c B.U B.locs B.cells B.slots ∧ Post ⟨T.setVm vm₁, locs, cells, slots⟩ (.ref a :: argsL).toArray v B ∧
      Steps p.tables e below (T.setTop g) (B.U.setTop { g with pc := g.pc + 3, stack := v.toList ++ rest }) := by
  obtain ⟨mk, mM, hnamed, hmM, hst, hab⟩ := Cond.instanceMethod_spec hinst
  obtain ⟨mM', cM, hmM', -, -, -, -, -, -, hsig⟩ := Cond.code_spec hnamed hcode
  cases hmM.symm.trans hmM'
  obtain ⟨cc, kk, i1, i2, -, i4, -⟩ := Cond.instantiable_spec hi
  cases (findClass_of_methodNamed hnamed).symm.trans i1
  have hni : kk.isInterface = false := by
    cases q : kk.isInterface
    · rfl
    · rw [q] at i4; simp at i4
  have hsel : selectMethod e.platform s.vm cell.cls mk = .method mk := selectMethod_private hmM (hpriv mk mM hnamed hmM)
  obtain ⟨vm₁, X₁, hstep⟩ := X.invokevirtual hexec hown hlink hnamed hmM hst i2 hni hy hcell hobj hsel hmM hab i2 hni (g := g) hg (hlen _ hsig) hstack hdg
  obtain ⟨v, B, X', hpost, hs⟩ := hK m meth c ⟨T.setVm vm₁, locs, cells, slots⟩ { g with stack := rest } (.invokevirtual index) mk (.ref a :: argsL).toArray X₁ hg hsize hdg hW (X₁.named hnamed) (hpre vm₁ X₁.warmed)
  exact ⟨v, vm₁, B, X₁.warmed, X', hpost, hstep _ fun acts => by rw [doInvoke_state]; exact hs⟩
end Call
theorem cats_va (ρ : Nat → Nat) (st : List Value) : ((st.map (va ρ)).map fun v => v.category).sum = cats st := by
  simp only [cats, List.map_map]; congr 1; exact List.map_congr_left fun v _ => cat_va ρ v
/-- what a method of the class keeps, as a contract, from its walk -/
theorem met_of_CW {P : Cl} {Z : State} {a0 : Array Value} (LK : LinkC P Z a0) {n0 adr f mi : Nat} {me : Me} (hme : asc P.ms mi = some me) (hW : CW P Z n0 adr f mi me) (l : Launch) {bytes : ByteArray}
    (hdec : ∀ pc i n, fetch me.cd pc = some (i, n) → decode bytes pc = .ok (i, n) ∧ (isSw i = true ∨ n = ilen i))
    {as : List Value} (hd : ∀ v ∈ as, ∀ x, v ≠ .double x) (hlen : (layA as).length ≤ me.ml) {c : Nat} {s s' : St} {v : Option Value} {h : Heap} (hr : cexec P f mi me c 0 (lay as me.ml) [] s = some (v, s')) (hc : mi = 0 → c = 0)
    (H : HRep P Z h adr c s) (hsz : mi = 0 → h.size = adr + 1) :
    MetFree l (yOf P me) (head1 [Cond.code (yOf P me) bytes me.ml (retOf me.rt)] (cRoom P mi me)) (fun a U => a = (as.map (va (adr + ·))).toArray ∧ Z.Warmed39 U.vm ∧ U.heap = h) (fun _ _ _ _ _ => True)
      (fun _ U o U' => ∃ w L, o = .returned w ∧ QC P Z n0 adr mi c v s' h w U'.heap L ∧ FrameEnd U o U' L (cRoom P mi me).cells (cRoom P mi me).slots) := by
  refine MetFree.of_bodySF (plainFor_of_name LK.2.2.2.2.2.2.2.2.2.2.1) hisR ?_
  intro p e s₀ m args below meth cd s₁ Bd hml hP hK
  obtain ⟨rfl, hZ, hh⟩ := hP
  have e0 : s₁.heap = h := by rw [← hh, Bd.state]; rfl
  have X0 : Stand p l e (cRoom P mi me) s₀ m _ below meth cd s₁ [] 0 0 := Stand.of_body Bd
  have hown : s₀.vm.findClass P.nm = some m.cls := findClass_of_methodNamed Bd.named
  have hnm : meth.name = me.nm := (name_of_methodNamed Bd.named Bd.method).1
  have hk0 : co mi c = 0 := by simp only [co]; split; · rename_i q; exact hc q
                               · rfl
  have hz0 : zo P mi c = 0 := by
    simp only [zo]; split
    · rename_i q; rw [hc q]; simp [zs]
    · rfl
  have D := hW p l e s₀ m _ below meth cd s₁ [] h c 0 (lay as me.ml) [] s v s' _ Bd.exec hZ hown hnm Bd.returns hml Bd.notSynchronized (fun q => by rw [hh]; exact hsz q)
    (fun pc i n q => by rw [Bd.bytes]; exact hdec pc i n q) hr (by rw [hk0, hz0]; exact X0)
    ⟨by rw [e0]; exact H, Fr.nil n0, by rw [e0]; exact fun x _ => rfl, by
      rw [e0]; split
      · rename_i q; rw [hsz q, hc q]
      · rfl⟩ (lay_LR hd hlen) (lay_len hlen)
  obtain ⟨s₂, o, a1, a2, a3, w, L, a4, a5, a6⟩ := D
  exact ⟨s₂, o, a1, a2, a3, w, L, a4, a5, a6⟩
end Jvm.LM

namespace Jvm.LM
open Sem ClassFile Op Lib Jvm.Stand Jvm.Free Jvm.LawKit Jvm.RoadKit
section Steps
variable {p : Program} {l : Launch} {e : Env} {R : Room} {s₀ : State} {m : MethodId} {args : Array Value} {below : List Frame} {meth : Method} {cd : Code} {T : State} {locs : List Loc} {cells slots : Nat}
variable {P : Cl} {Z : State} {a0 : Array Value} {n0 adr c mi : Nat} {s s' : St} {h0 : Heap}
theorem gfld_val {x : Nat} {w : Value} (hg : gfld P x c s = some w) : ∃ k fe, asc P.fx x = some k ∧ asc P.fs k = some fe ∧ Fval adr c s k fe = va (adr + ·) w := by
  unfold gfld at hg
  split at hg
  · cases hg
  · rename_i k e1
    split at hg
    · cases hg
    · rename_i fe e2
      refine ⟨k, fe, e1, e2, ?_⟩
      simp only [Fval]
      split at hg
      · rename_i e3; cases hg; first | rfl | (rw [e3]; rfl)
      · rename_i e3; cases hg; first | rfl | (rw [e3]; rfl)
      · rename_i e3; cases hg; first | rfl | (rw [e3]; rfl)
      · rename_i j e3
        split at hg
        · rename_i e4; cases hg; first | (simp only [if_pos e4]; rfl) | (rw [e3]; simp only [if_pos e4]; rfl)
        · cases hg
theorem st_get (LK : LinkC P Z a0) (X : Stand p l e R s₀ m args below meth cd T locs cells slots) (hx : p.tables.exec = Jvm.exec) (hZ : Z.Warmed39 s₀.vm) (hown : s₀.vm.findClass P.nm = some m.cls) (H : HRep P Z T.heap adr c s) {x pc : Nat} {w : Value} (hg : gfld P x c s = some w)
    (hd : decode cd.code pc = .ok (.getfield x, 3)) {L : Array Slot} {r : List Value} :
    ∃ T', Stand p l e R s₀ m args below meth cd T' locs cells slots ∧ T'.heap = T.heap ∧ ∀ t, Steps p.tables e below (T'.setTop (mkF m (pc + 3) L (va (adr + ·) w :: r))) t → Steps p.tables e below (T.setTop (mkF m pc L (.ref adr :: r))) t := by
  obtain ⟨k, fe, e1, e2, e3⟩ := gfld_val (adr := adr) hg
  have F := H.2.1 k fe e2
  rw [e3] at F
  exact getF X hx hZ hown (host := "") (Or.inl (LK.2.1 _ _ e1 _ e2)) Via.refl rfl F (g := mkF m pc L (.ref adr :: r)) rfl rfl hd
theorem st_put (LK : LinkC P Z a0) (X : Stand p l e R s₀ m args below meth cd T locs cells slots) (hx : p.tables.exec = Jvm.exec) (hZ : Z.Warmed39 s₀.vm) (hown : s₀.vm.findClass P.nm = some m.cls) (hna : n0 ≤ adr) (I : Inv P Z n0 adr mi c s h0 T.heap locs) {x pc : Nat} {w : Value} {ini : Bool} (hini : ini = true → meth.name = "<init>") (hg : pfld P x ini w s = some s')
    (hd : decode cd.code pc = .ok (.putfield x, 3)) {L : Array Slot} {r : List Value} :
    ∃ T' locs', Stand p l e R s₀ m args below meth cd T' locs' cells slots ∧ Inv P Z n0 adr mi c s' h0 T'.heap locs' ∧ ∀ t, Steps p.tables e below (T'.setTop (mkF m (pc + 3) L r)) t → Steps p.tables e below (T.setTop (mkF m pc L (w :: .ref adr :: r))) t := by
  obtain ⟨H, hFr, hK, hS⟩ := I
  obtain ⟨nF, hnF⟩ := LK.1.1
  unfold pfld at hg
  split at hg
  · cases hg
  · rename_i k e1
    split at hg
    · cases hg
    · rename_i fe e2
      split at hg
      · cases hg
      · rename_i e3
        have hL : (Cond.lays P.nm P.nm fe.1 fe.2.1).before a0 Z = true ∨ ((Cond.laysFinal P.nm P.nm fe.1 fe.2.1).before a0 Z = true ∧ P.nm = P.nm ∧ meth.name = "<init>") := by
          have q := LK.2.2.1 k fe e2
          split at q
          · rename_i e4
            refine Or.inr ⟨q, rfl, hini ?_⟩
            cases ini
            · exact absurd ⟨e4, rfl⟩ e3
            · rfl
          · exact Or.inl q
        have hp := LK.2.2.2.1 k fe e2
        have fin : ∀ {T' : State} {h' : Heap} {v' : Value}, Stand p l e R s₀ m args below meth cd T' (locs ++ [⟨adr, RoadKit.slotOf Z P.nm fe.1 fe.2.1⟩]) cells slots → T'.heap = h' → Wr T.heap h' adr (RoadKit.slotOf Z P.nm fe.1 fe.2.1) v' → v' = Fval adr c s' k fe →
            (∀ a b, (a ≠ 0 ∨ b ≠ k) → gI s' a b = gI s a b ∧ gL s' a b = gL s a b) → Inv P Z n0 adr mi c s' h0 T'.heap (locs ++ [⟨adr, RoadKit.slotOf Z P.nm fe.1 fe.2.1⟩]) := fun {T' h' v'} X' e4 W e5 e6 => by
          rw [e4]
          exact ⟨H.putFld LK e2 W e5 e6, Fr.snoc X' hFr hna, hK.wr W (Nat.le_refl _) (by omega), by rw [W.size]; exact hS⟩
        split at hg
        · rename_i z e4
          cases hg
          rw [e4] at hp
          obtain ⟨T', h', X', q1, W, st⟩ := putF X hx hZ hown (host := "") (Or.inl (LK.2.1 _ _ e1 _ e2)) Via.refl rfl (H.2.1 k fe e2) H.1 hL hnF hp (narrow_I z) rfl (g := mkF m pc L (.int z :: .ref adr :: r)) rfl rfl hd
          refine ⟨T', _, X', fin X' q1 W (by simp only [Fval, e4]; simp [gI_sI]) (fun a b hab => ?_), st⟩
          rw [gI_sI, gL_sI, if_neg (by omega)]; exact ⟨rfl, rfl⟩
        · rename_i z e4
          cases hg
          rw [e4] at hp
          obtain ⟨T', h', X', q1, W, st⟩ := putFN X hx hZ hown (LK.2.1 _ _ e1 _ e2) Via.refl rfl (H.2.1 k fe e2) H.1 hL hnF (v' := .int (z &&& 1)) hp rfl (fits_nar_bool z) (g := mkF m pc L (.int z :: .ref adr :: r)) rfl rfl hd
          refine ⟨T', _, X', fin X' q1 W (by simp only [Fval, e4]; simp [gI_sI]) (fun a b hab => ?_), st⟩
          rw [gI_sI, gL_sI, if_neg (by omega)]; exact ⟨rfl, rfl⟩
        · rename_i z e4
          cases hg
          rw [e4] at hp
          obtain ⟨T', h', X', q1, W, st⟩ := putF X hx hZ hown (host := "") (Or.inl (LK.2.1 _ _ e1 _ e2)) Via.refl rfl (H.2.1 k fe e2) H.1 hL hnF hp rfl rfl (g := mkF m pc L (.long z :: .ref adr :: r)) rfl rfl hd
          refine ⟨T', _, X', fin X' q1 W (by simp only [Fval, e4]; simp [gL_sL]) (fun a b hab => ?_), st⟩
          rw [gL_sL, gI_sL, if_neg (by omega)]; exact ⟨rfl, rfl⟩
        · cases hg
theorem lda_spec {tt : Nat} {st st' : List Value} (hl : lda P tt c st s = some st') : ∃ i a r N, st = .int i :: .ref (a + 1) :: r ∧ P.al[a]? = some (tt, N) ∧ a < c ∧ inb N i ∧ st' = elv tt s (a + 1) (ix i) :: r := by
  unfold lda at hl
  split at hl
  · rename_i i a r
    split at hl
    · rename_i t2 N e1
      split at hl
      · rename_i e2
        obtain ⟨rfl, e3⟩ := e2
        split at hl
        · rename_i e4; cases hl; exact ⟨i, a, r, N, rfl, e1, e3, e4, rfl⟩
        · cases hl
      · cases hl
    · cases hl
  · cases hl
theorem va_elv (ρ : Nat → Nat) (tt : Nat) (s : St) (j i : Nat) : va ρ (elv tt s j i) = elv tt s j i := by unfold elv; split <;> rfl
theorem st_lda (X : Stand p l e R s₀ m args below meth cd T locs cells slots) (hx : p.tables.exec = Jvm.exec) (hZ : Z.Warmed39 s₀.vm) (H : HRep P Z T.heap adr c s) {tt pc : Nat} {st st' : List Value} (hl : lda P tt c st s = some st') {i : Instr}
    (hi : (tt = 0 ∧ i = .iaload) ∨ (tt = 1 ∧ i = .baload) ∨ (tt = 2 ∧ i = .laload)) (hd : decode cd.code pc = .ok (i, 1)) {L : Array Slot} :
    ∀ t, Steps p.tables e below (T.setTop (mkF m (pc + 1) L (st'.map (va (adr + ·))))) t → Steps p.tables e below (T.setTop (mkF m pc L (st.map (va (adr + ·))))) t := by
  obtain ⟨j, a, r, N, rfl, e1, e2, e3, rfl⟩ := lda_spec hl
  obtain ⟨cl, A, hN, hv⟩ := H.2.2.1 a tt N e1 e2
  have hin : ¬ (j < 0 ∨ cl.slots.size ≤ j.toNatClampNeg) := by rw [hN]; exact inb_not e3
  have hat : cl.slots[j.toNatClampNeg]? = some (elv tt s (a + 1) (ix j)) := hv (ix j) (inb_ix e3)
  intro t q
  rw [List.map_cons, va_elv] at q
  rcases hi with ⟨rfl, rfl⟩ | ⟨rfl, rfl⟩ | ⟨rfl, rfl⟩
  · exact X.iaload hx A.1 (State.isArrayOf_alike hZ.alike A.2.1) A.2.2 hin hat (g := mkF m pc L (.int j :: .ref (adr + (a + 1)) :: r.map (va (adr + ·)))) rfl rfl hd t q
  · exact X.baloadBooleans hx A.1 (State.isArrayOf_alike hZ.alike A.2.1) A.2.2 hin hat (g := mkF m pc L (.int j :: .ref (adr + (a + 1)) :: r.map (va (adr + ·)))) rfl rfl hd t q
  · exact X.laload hx A.1 (State.isArrayOf_alike hZ.alike A.2.1) A.2.2 hin hat (g := mkF m pc L (.int j :: .ref (adr + (a + 1)) :: r.map (va (adr + ·)))) rfl rfl hd t q
theorem sta_spec {tt : Nat} {st st' : List Value} (hl : sta P tt c st s = some (st', s')) : ∃ v i a N, st = v :: .int i :: .ref (a + 1) :: st' ∧ P.al[a]? = some (tt, N) ∧ a < c ∧ inb N i ∧
    ((tt = 0 ∧ ∃ z, v = .int z ∧ s' = sI s (a + 1) (ix i) z) ∨ (tt = 1 ∧ ∃ z, v = .int z ∧ s' = sI s (a + 1) (ix i) (z &&& 1)) ∨ (tt = 2 ∧ ∃ z, v = .long z ∧ s' = sL s (a + 1) (ix i) z)) := by
  unfold sta at hl
  split at hl
  · rename_i v i a r
    split at hl
    · rename_i t2 N e1
      split at hl
      · rename_i e2
        obtain ⟨rfl, e3⟩ := e2
        split at hl
        · rename_i e4
          split at hl
          · cases hl; exact ⟨_, i, a, N, rfl, e1, e3, e4, Or.inl ⟨rfl, _, rfl, rfl⟩⟩
          · cases hl; exact ⟨_, i, a, N, rfl, e1, e3, e4, Or.inr (Or.inl ⟨rfl, _, rfl, rfl⟩)⟩
          · cases hl; exact ⟨_, i, a, N, rfl, e1, e3, e4, Or.inr (Or.inr ⟨rfl, _, rfl, rfl⟩)⟩
          · cases hl
        · cases hl
      · cases hl
    · cases hl
  · cases hl
theorem st_sta (X : Stand p l e R s₀ m args below meth cd T locs cells slots) (hx : p.tables.exec = Jvm.exec) (hZ : Z.Warmed39 s₀.vm) (hna : n0 ≤ adr) (I : Inv P Z n0 adr mi c s h0 T.heap locs) {tt pc : Nat} {st st' : List Value} (hl : sta P tt c st s = some (st', s')) {i : Instr}
    (hi : (tt = 0 ∧ i = .iastore) ∨ (tt = 1 ∧ i = .bastore) ∨ (tt = 2 ∧ i = .lastore)) (hd : decode cd.code pc = .ok (i, 1)) {L : Array Slot} :
    ∃ T' locs', Stand p l e R s₀ m args below meth cd T' locs' cells slots ∧ Inv P Z n0 adr mi c s' h0 T'.heap locs' ∧ ∀ t, Steps p.tables e below (T'.setTop (mkF m (pc + 1) L (st'.map (va (adr + ·))))) t → Steps p.tables e below (T.setTop (mkF m pc L (st.map (va (adr + ·))))) t := by
  obtain ⟨H, hFr, hK, hS⟩ := I
  obtain ⟨v, j, a, N, rfl, e1, e2, e3, e4⟩ := sta_spec hl
  obtain ⟨cl, A, hN, hv⟩ := H.2.2.1 a tt N e1 e2
  have hin : ¬ (j < 0 ∨ cl.slots.size ≤ j.toNatClampNeg) := by rw [hN]; exact inb_not e3
  have hal := (List.getElem?_eq_some_iff.mp e1).1
  have fin : ∀ {T' : State} {h' : Heap} {v' : Value}, Stand p l e R s₀ m args below meth cd T' (locs ++ [⟨adr + (a + 1), j.toNatClampNeg⟩]) cells slots → T'.heap = h' → Wr T.heap h' (adr + (a + 1)) j.toNatClampNeg v' → v' = elv tt s' (a + 1) (ix j) →
      (∀ x y, (x ≠ a + 1 ∨ y ≠ ix j) → gI s' x y = gI s x y ∧ gL s' x y = gL s x y) → Inv P Z n0 adr mi c s' h0 T'.heap (locs ++ [⟨adr + (a + 1), j.toNatClampNeg⟩]) := fun {T' h' v'} X' q1 W q2 q3 => by
    rw [q1]
    exact ⟨H.putArr e1 e2 (inb_ix e3) W q2 q3, Fr.snoc X' hFr (by omega), hK.wr W (by omega) (by omega), by rw [W.size]; exact hS⟩
  rcases e4 with ⟨rfl, z, rfl, rfl⟩ | ⟨rfl, z, rfl, rfl⟩ | ⟨rfl, z, rfl, rfl⟩
  · obtain ⟨-, rfl⟩ : (0 : Nat) = 0 ∧ i = .iastore := by rcases hi with q | q | q <;> first | exact q | (have := q.1; omega)
    obtain ⟨T', h', X', q1, W, st⟩ := stI X hx hZ rfl A hin (g := mkF m pc L (.int z :: .int j :: .ref (adr + (a + 1)) :: st'.map (va (adr + ·)))) rfl rfl hd
    refine ⟨T', _, X', fin X' q1 W (by simp [elv, gI_sI, ix]) (fun x y hxy => ?_), st⟩
    rw [gI_sI, gL_sI, if_neg (fun q => hxy.elim (fun z => z q.1) (fun z => z q.2))]; exact ⟨rfl, rfl⟩
  · obtain ⟨-, rfl⟩ : (1 : Nat) = 1 ∧ i = .bastore := by rcases hi with q | q | q <;> first | exact q | (have := q.1; omega)
    obtain ⟨T', h', X', q1, W, st⟩ := stZ X hx hZ rfl A hin (g := mkF m pc L (.int z :: .int j :: .ref (adr + (a + 1)) :: st'.map (va (adr + ·)))) rfl rfl hd
    refine ⟨T', _, X', fin X' q1 W (by simp [elv, gI_sI, ix, nar]) (fun x y hxy => ?_), st⟩
    rw [gI_sI, gL_sI, if_neg (fun q => hxy.elim (fun z => z q.1) (fun z => z q.2))]; exact ⟨rfl, rfl⟩
  · obtain ⟨-, rfl⟩ : (2 : Nat) = 2 ∧ i = .lastore := by rcases hi with q | q | q <;> first | exact q | (have := q.1; omega)
    obtain ⟨T', h', X', q1, W, st⟩ := stJ X hx hZ rfl A hin (g := mkF m pc L (.long z :: .int j :: .ref (adr + (a + 1)) :: st'.map (va (adr + ·)))) rfl rfl hd
    refine ⟨T', _, X', fin X' q1 W (by simp [elv, gL_sL, ix]) (fun x y hxy => ?_), st⟩
    rw [gL_sL, gI_sL, if_neg (fun q => hxy.elim (fun z => z q.1) (fun z => z q.2))]; exact ⟨rfl, rfl⟩
theorem newF_spec {t : ArrayType} {code : Cd} {pc : Nat} {st : List Value} (h : newF P t code pc c st = true) : ∃ n x k fe tt N, st = [.int n, .ref 0] ∧ fetch code (pc + 2) = some (.putfield x, 3) ∧ asc P.fx x = some k ∧ asc P.fs k = some fe ∧ P.al[c]? = some (tt, N) ∧
    fe.2.2.1 = c + 3 ∧ t = atOf tt ∧ 0 ≤ n.toInt ∧ n.toInt = N ∧ N < 1000000 := by
  unfold newF at h
  split at h
  · rename_i n
    split at h
    · rename_i x e1
      split at h
      · rename_i k e2
        split at h
        · rename_i fe e3
          split at h
          · rename_i tt N e4
            obtain ⟨q1, q2, q3, q4, q5⟩ := of_decide_eq_true h
            exact ⟨n, x, k, fe, tt, N, rfl, e1, e2, e3, e4, q1, q2, q3, q4, q5⟩
          · cases h
        · cases h
      · cases h
    · cases h
  · cases h
theorem ty_at {tt : Nat} (h : tt ≤ 2) : newarray.typeOf (atOf tt) = tyOf tt := by
  have : tt = 0 ∨ tt = 1 ∨ tt = 2 := by omega
  rcases this with rfl | rfl | rfl <;> rfl
theorem st_new (LK : LinkC P Z a0) {me : Me} (hme : asc P.ms 0 = some me) (hnm : meth.name = me.nm) (X : Stand p l e (cRoom P 0 me) s₀ m args below meth cd T locs (co 0 c) (zo P 0 c)) (hx : p.tables.exec = Jvm.exec) (hZ : Z.Warmed39 s₀.vm) (hown : s₀.vm.findClass P.nm = some m.cls) (hna : n0 ≤ adr) (hs0 : s₀.heap.size = adr + 1) (I : Inv P Z n0 adr 0 c s h0 T.heap locs)
    (hdec : ∀ pc i n, fetch me.cd pc = some (i, n) → decode cd.code pc = .ok (i, n) ∧ (isSw i = true ∨ n = ilen i)) {t : ArrayType} {pc : Nat} {st : List Value} (h : newF P t me.cd pc c st = true) (hd : decode cd.code pc = .ok (.newarray t, 2)) {L : Array Slot} :
    ∃ T' locs', Stand p l e (cRoom P 0 me) s₀ m args below meth cd T' locs' (co 0 (c + 1)) (zo P 0 (c + 1)) ∧ Inv P Z n0 adr 0 (c + 1) s h0 T'.heap locs' ∧ ∀ t, Steps p.tables e below (T'.setTop (mkF m (pc + 5) L [])) t → Steps p.tables e below (T.setTop (mkF m pc L (st.map (va (adr + ·))))) t := by
  obtain ⟨H, hFr, hK, hS⟩ := I
  obtain ⟨nF, hnF⟩ := LK.1.1
  obtain ⟨n, x, k, fe, tt, N, rfl, e1, e2, e3, e4, e5, rfl, e6, e7, e8⟩ := newF_spec h
  obtain ⟨htt, hac⟩ := LK.2.2.2.2.2.1 _ _ _ e4
  have hal := (List.getElem?_eq_some_iff.mp e4).1
  have hS' : T.heap.size = adr + 1 + c := hS
  have hty := ty_at htt
  have hini : meth.name = "<init>" := by rw [hnm]; exact LK.2.2.2.2.2.2.2.2.2.2.2.2 me hme
  have hLy : (Cond.lays P.nm P.nm fe.1 fe.2.1).before a0 Z = true ∨ ((Cond.laysFinal P.nm P.nm fe.1 fe.2.1).before a0 Z = true ∧ P.nm = P.nm ∧ meth.name = "<init>") := by
    have q := LK.2.2.1 k fe e3
    split at q
    · exact Or.inr ⟨q, rfl, hini⟩
    · exact Or.inl q
  have hzc := zs_succ P.al e4
  have hzm := zs_le P.al (c + 1)
  obtain ⟨T1, hp1, cA, X1, q1, E, A, st1⟩ := newP X hx hZ (aty := atOf tt) (by rw [hty]; exact hac) rfl (g := mkF m pc L [.int n, .ref adr]) rfl hd rfl (by rw [Int32.lt_iff_toInt_lt]; simp only [Int32.reduceToInt]; omega) (cap := N)
    (by simp only [Int32.toNatClampNeg]; omega) (by omega) (by simp only [co, cRoom, if_true]; omega) (by simp only [zo, cRoom, if_true]; omega)
  rw [hty] at A
  have hp := LK.2.2.2.1 k fe e3
  rw [e5] at hp
  obtain ⟨d2, -⟩ := hdec _ _ _ e1
  have hsz1 : hp1.size = adr + 1 + (c + 1) := by
    have hh : T1.heap.size ≤ s₀.heap.size + (c + 1) := X1.heapSize
    have g2 : T.heap.size < Array.size hp1 := A.lt
    rw [q1, hs0] at hh
    rw [hS'] at g2
    omega
  obtain ⟨T2, hp2, X2, q2, W, st2⟩ := putF X1 hx hZ hown (host := "") (Or.inl (LK.2.1 _ _ e2 _ e3)) Via.refl q1 ((H.2.1 k fe e3).ext E) (H.1.ext E) hLy hnF (v := .ref T.heap.size) hp rfl rfl (g := mkF m (pc + 2) L [.ref T.heap.size, .ref adr]) rfl rfl d2
  refine ⟨T2, _, by simpa [co, zo, hzc] using X2, ?_, fun t q => st1 _ (st2 _ q)⟩
  rw [q2]
  refine ⟨H.newArr LK e3 e5 e4 e6 e7 hS' E A W, Fr.snoc X2 hFr hna, ?_, by rw [W.size, hsz1]; simp⟩
  exact (hK.ext E (by rw [hsz1]; omega) (by omega)).wr W (Nat.le_refl _) (by omega)
end Steps
end Jvm.LM

namespace Jvm.LM
open Sem ClassFile Op Lib Jvm.Stand Jvm.Free Jvm.LawKit Jvm.RoadKit
theorem cret_spec {me : Me} {st : List Value} {i : Instr} {v : Option Value} (h : cret me st i = some v) :
    (∃ x, i = .ireturn ∧ st = [.int x] ∧ ((me.rt = 1 ∧ v = some (.int x)) ∨ (me.rt = 2 ∧ v = some (.int (x &&& 1))))) ∨ (∃ x, i = .lreturn ∧ st = [.long x] ∧ me.rt = 3 ∧ v = some (.long x)) ∨ (i = .return_ ∧ st = [] ∧ me.rt = 0 ∧ v = none) := by
  unfold cret at h
  split at h
  · split at h
    · rename_i x
      split at h
      · rename_i e1; cases h; exact Or.inl ⟨x, rfl, rfl, Or.inl ⟨e1, rfl⟩⟩
      · split at h
        · rename_i e1; cases h; exact Or.inl ⟨x, rfl, rfl, Or.inr ⟨e1, rfl⟩⟩
        · cases h
    · cases h
  · split at h
    · rename_i x
      split at h
      · rename_i e1; cases h; exact Or.inr (Or.inl ⟨x, rfl, rfl, e1, rfl⟩)
      · cases h
    · cases h
  · split at h
    · split at h
      · rename_i e1; cases h; exact Or.inr (Or.inr ⟨rfl, rfl, e1, rfl⟩)
      · cases h
    · cases h
  · cases h
section Ret
variable {p : Program} {l : Launch} {e : Env} {R : Room} {s₀ : State} {m : MethodId} {args : Array Value} {below : List Frame} {meth : Method} {cd : Code} {T : State} {locs : List Loc} {cells slots : Nat}
theorem retI' (X : Stand p l e R s₀ m args below meth cd T locs cells slots) (hx : p.tables.exec = Jvm.exec) {pc : Nat} {Ls : Array Slot} {z : Int32} {rest : List Value} (hret : meth.sig.returnType = some .int) (hd : decode cd.code pc = .ok (.ireturn, 1)) {fs : List Frame}
    (hl : ∀ (f : JFrame) (acts : List Action), f.method = m → f.locked = none → f.entered = [] → (doReturn e (T.setTop f) acts (some (.int z))).1 = T.setFrames fs) : Steps p.tables e below (T.setTop (mkF m pc Ls (.int z :: rest))) (T.setFrames fs) :=
  retOut X hx (t := .int) (i := .ireturn) hret rfl (Or.inl ⟨rfl, Or.inl rfl, z, rfl⟩) hd hl
theorem st_ret (X : Stand p l e R s₀ m args below meth cd T locs cells slots) (hx : p.tables.exec = Jvm.exec) {me : Me} (hret : meth.sig.returnType = retOf me.rt) (hlk : meth.locks = false) {ρ : Nat → Nat} {st : List Value} {i : Instr} {v : Option Value} (h : cret me st i = some v) {pc n : Nat} (hd : decode cd.code pc = .ok (i, n)) (hn : isSw i = true ∨ n = ilen i)
    {Q : Option Value → Heap → List Loc → Prop} (hQ : Q v T.heap locs) (hc : cells ≤ R.cells) (hs : slots ≤ R.slots) {L : Array Slot} : Don p e below s₀ R Q (T.setTop (mkF m pc L (st.map (va ρ)))) := by
  rcases cret_spec h with ⟨x, rfl, rfl, h1⟩ | ⟨x, rfl, rfl, h1, rfl⟩ | ⟨rfl, rfl, h1, rfl⟩
  · obtain rfl := hn.resolve_left Bool.false_ne_true
    rcases h1 with ⟨h1, rfl⟩ | ⟨h1, rfl⟩
    · rw [h1] at hret
      obtain ⟨fs, hr, hrun, hended, hW, hsame⟩ := X.leave (v := some (.int x)) (fun q => by rw [hret] at q; cases q) hlk
      exact ⟨_, _, retI' X hx hret hd hr, hrun, hended, _, _, rfl, hQ, ⟨_, rfl⟩, hW, hsame.mono hc hs⟩
    · rw [h1] at hret
      obtain ⟨fs, hr, hrun, hended, hW, hsame⟩ := X.leave (v := some (.int (x &&& 1))) (fun q => by rw [hret] at q; cases q) hlk
      exact ⟨_, _, retN X hx (t := .boolean) hret (Or.inl rfl) hd hr, hrun, hended, _, _, rfl, hQ, ⟨_, rfl⟩, hW, hsame.mono hc hs⟩
  · obtain rfl := hn.resolve_left Bool.false_ne_true
    rw [h1] at hret
    obtain ⟨fs, hr, hrun, hended, hW, hsame⟩ := X.leave (v := some (.long x)) (fun q => by rw [hret] at q; cases q) hlk
    exact ⟨_, _, retOut X hx (t := .long) (i := .lreturn) hret rfl (Or.inr (Or.inl ⟨rfl, rfl, x, rfl⟩)) hd hr, hrun, hended, _, _, rfl, hQ, ⟨_, rfl⟩, hW, hsame.mono hc hs⟩
  · obtain rfl := hn.resolve_left Bool.false_ne_true
    rw [h1] at hret
    obtain ⟨fs, hr, hrun, hended, hW, hsame⟩ := X.leave (v := none) (fun _ => rfl) hlk
    exact ⟨_, _, X.returnOut hx hret hd hr, hrun, hended, _, _, rfl, hQ, ⟨_, rfl⟩, hW, hsame.mono hc hs⟩
end Ret
theorem cret_va {me : Me} {st : List Value} {i : Instr} {v : Option Value} (h : cret me st i = some v) (ρ : Nat → Nat) : v.toList.map (va ρ) = v.toList := by
  rcases cret_spec h with ⟨x, rfl, rfl, ⟨-, rfl⟩ | ⟨-, rfl⟩⟩ | ⟨x, rfl, rfl, -, rfl⟩ | ⟨rfl, rfl, -, rfl⟩ <;> rfl
theorem nd_rev {ρ : Nat → Nat} {as : List Value} (h : nd as = true) : ∀ v ∈ (Value.ref 0 :: as.reverse), ∀ x, v ≠ .double x := fun v hv x e => by
  rcases List.mem_cons.mp hv with q | q
  · subst q; cases e
  · exact nd_spec h v (List.mem_reverse.mp q) x e
theorem pfld_va {P : Cl} {x : Nat} {ini : Bool} {w : Value} {s s1 : St} (hg : pfld P x ini w s = some s1) (ρ : Nat → Nat) : va ρ w = w := by
  cases w <;> first | rfl | skip
  exfalso
  unfold pfld at hg
  split at hg
  · cases hg
  · split at hg
    · cases hg
    · split at hg
      · cases hg
      · split at hg
        · rename_i q; cases q
        · rename_i q; cases q
        · rename_i q; cases q
        · cases hg
theorem cwalk {P : Cl} {Z : State} {a0 : Array Value} (LK : LinkC P Z a0) {n0 adr : Nat} (hna : n0 ≤ adr) : ∀ f mi me, asc P.ms mi = some me → CW P Z n0 adr f mi me := by
  intro f
  induction f with
  | zero =>
    intro mi me hme p l e s₀ m args below meth cd T locs h0 c pc ls st s v s' L hx hZ hown hnm hret hml hlk hs0 hdec hr
    cases hr
  | succ f ih =>
    intro mi me hme p l e s₀ m args below meth cd T locs h0 c pc ls st s v s' L hx hZ hown hnm hret hml hlk hs0 hdec hr X I hL hlen
    simp only [cexec] at hr
    split at hr
    · cases hr
    · rename_i i n hf
      obtain ⟨hd, hn⟩ := hdec pc i n hf
      have ihk := ih mi me hme
      have hsize : L.size = cd.maxLocals := by rw [hL.1, hlen, hml]
      obtain ⟨nF, hnF⟩ := LK.1.1
      unfold cstep at hr
      split at hr
      -- getfield
      · obtain rfl := hn.resolve_left Bool.false_ne_true
        split at hr
        · rename_i r
          split at hr
          · rename_i w hg
            obtain ⟨T', X', q1, st⟩ := st_get LK X hx hZ hown I.1 hg hd (L := L) (r := r.map (va (adr + ·)))
            exact Don.step st (ihk p l e s₀ m args below meth cd T' locs h0 c _ ls (w :: r) s v s' L hx hZ hown hnm hret hml hlk hs0 hdec hr X' (by rw [q1]; exact I) hL hlen)
          · cases hr
        · cases hr
      -- putfield
      · obtain rfl := hn.resolve_left Bool.false_ne_true
        split at hr
        · rename_i w r
          split at hr
          · rename_i s1 hg
            have hini : (mi == 0) = true → meth.name = "<init>" := fun q => by
              have q : mi = 0 := by simpa using q
              subst q; rw [hnm]; exact LK.2.2.2.2.2.2.2.2.2.2.2.2 me hme
            have hw : va (adr + ·) w = w := pfld_va hg _
            obtain ⟨T', locs', X', I', st⟩ := st_put LK X hx hZ hown hna I hini hg hd (L := L) (r := r.map (va (adr + ·)))
            refine Don.step (fun t q => ?_) (ihk p l e s₀ m args below meth cd T' locs' h0 c _ ls r s1 v s' L hx hZ hown hnm hret hml hlk hs0 hdec hr X' I' hL hlen)
            have := st t q
            rw [List.map_cons, hw]; exact this
          · cases hr
        · cases hr
      -- loads of arrays
      · obtain rfl := hn.resolve_left Bool.false_ne_true
        split at hr
        · rename_i st' hg
          exact Don.step (st_lda X hx hZ I.1 hg (Or.inl ⟨rfl, rfl⟩) hd) (ihk p l e s₀ m args below meth cd T locs h0 c _ ls st' s v s' L hx hZ hown hnm hret hml hlk hs0 hdec hr X I hL hlen)
        · cases hr
      · obtain rfl := hn.resolve_left Bool.false_ne_true
        split at hr
        · rename_i st' hg
          exact Don.step (st_lda X hx hZ I.1 hg (Or.inr (Or.inl ⟨rfl, rfl⟩)) hd) (ihk p l e s₀ m args below meth cd T locs h0 c _ ls st' s v s' L hx hZ hown hnm hret hml hlk hs0 hdec hr X I hL hlen)
        · cases hr
      · obtain rfl := hn.resolve_left Bool.false_ne_true
        split at hr
        · rename_i st' hg
          exact Don.step (st_lda X hx hZ I.1 hg (Or.inr (Or.inr ⟨rfl, rfl⟩)) hd) (ihk p l e s₀ m args below meth cd T locs h0 c _ ls st' s v s' L hx hZ hown hnm hret hml hlk hs0 hdec hr X I hL hlen)
        · cases hr
      -- stores into arrays
      · obtain rfl := hn.resolve_left Bool.false_ne_true
        split at hr
        · rename_i st' s1 hg
          obtain ⟨T', locs', X', I', st⟩ := st_sta X hx hZ hna I hg (Or.inl ⟨rfl, rfl⟩) hd (L := L)
          exact Don.step st (ihk p l e s₀ m args below meth cd T' locs' h0 c _ ls st' s1 v s' L hx hZ hown hnm hret hml hlk hs0 hdec hr X' I' hL hlen)
        · cases hr
      · obtain rfl := hn.resolve_left Bool.false_ne_true
        split at hr
        · rename_i st' s1 hg
          obtain ⟨T', locs', X', I', st⟩ := st_sta X hx hZ hna I hg (Or.inr (Or.inl ⟨rfl, rfl⟩)) hd (L := L)
          exact Don.step st (ihk p l e s₀ m args below meth cd T' locs' h0 c _ ls st' s1 v s' L hx hZ hown hnm hret hml hlk hs0 hdec hr X' I' hL hlen)
        · cases hr
      · obtain rfl := hn.resolve_left Bool.false_ne_true
        split at hr
        · rename_i st' s1 hg
          obtain ⟨T', locs', X', I', st⟩ := st_sta X hx hZ hna I hg (Or.inr (Or.inr ⟨rfl, rfl⟩)) hd (L := L)
          exact Don.step st (ihk p l e s₀ m args below meth cd T' locs' h0 c _ ls st' s1 v s' L hx hZ hown hnm hret hml hlk hs0 hdec hr X' I' hL hlen)
        · cases hr
      -- newarray and putfield
      · obtain rfl := hn.resolve_left Bool.false_ne_true
        split at hr
        · rename_i hg
          obtain ⟨rfl, hg⟩ := hg
          obtain ⟨T', locs', X', I', st⟩ := st_new LK hme hnm X hx hZ hown hna (hs0 rfl) I hdec hg hd (L := L)
          exact Don.step st (ihk p l e s₀ m args below meth cd T' locs' h0 (c + 1) _ ls [] s v s' L hx hZ hown hnm hret hml hlk hs0 hdec hr X' I' hL hlen)
        · cases hr
      -- constants
      · obtain rfl := hn.resolve_left Bool.false_ne_true
        split at hr
        · rename_i z hg
          exact Don.step (fun t q => X.ldcI hx hown (mv hZ (LK.2.2.2.2.2.2.1 _ _ hg)) (g := mkF m pc L (st.map (va (adr + ·)))) rfl hd q) (ihk p l e s₀ m args below meth cd T locs h0 c _ ls (.int z :: st) s v s' L hx hZ hown hnm hret hml hlk hs0 hdec hr X I hL hlen)
        · cases hr
      · obtain rfl := hn.resolve_left Bool.false_ne_true
        split at hr
        · rename_i z hg
          exact Don.step (fun t q => X.ldc2J hx hown (mv hZ (LK.2.2.2.2.2.2.1 _ _ hg)) (g := mkF m pc L (st.map (va (adr + ·)))) rfl hd q) (ihk p l e s₀ m args below meth cd T locs h0 c _ ls (.long z :: st) s v s' L hx hZ hown hnm hret hml hlk hs0 hdec hr X I hL hlen)
        · cases hr
      -- Object's constructor
      · obtain rfl := hn.resolve_left Bool.false_ne_true
        split at hr
        · rename_i r
          split at hr
          · rename_i hg
            obtain ⟨rfl, hg1, hg2⟩ := hg
            obtain ⟨w1, w2, w3⟩ := LK.2.2.2.2.2.2.2.1
            obtain ⟨T', X', q1, st⟩ := initO X hx hZ hown w1 w2 w3 rfl (g := mkF m pc L (.ref adr :: r.map (va (adr + ·)))) rfl hsize rfl hd hg1 (W := cats r) (by show 2 * 0 + _ ≤ _; rw [cats_va]; omega) hg2
            exact Don.step st (ihk p l e s₀ m args below meth cd T' locs h0 c _ ls r s v s' L hx hZ hown hnm hret hml hlk hs0 hdec hr X' (by rw [q1]; exact I) hL hlen)
          · cases hr
        · cases hr
      -- a call
      · obtain rfl := hn.resolve_left Bool.false_ne_true
        split at hr
        · cases hr
        · rename_i m' hm'
          split at hr
          · cases hr
          · rename_i me' hme'
            split at hr
            · rename_i r hst
              split at hr
              · rename_i hg
                obtain ⟨hg0, hg1, hg2, hg3⟩ := hg
                dsimp only at hr
                rw [hme'] at hr
                dsimp only at hr
                obtain ⟨bytes, ps, hcode, hdec', hpar, hpl⟩ := LK.2.2.2.2.2.2.2.2.1 m' me' hme'
                obtain ⟨w1, w2, w3⟩ := LK.2.2.2.2.2.2.2.2.2.1 _ _ hm' _ hme'
                by_cases hla : (layA (Value.ref 0 :: (st.take me'.na).reverse)).length ≤ me'.ml
                · rw [if_pos hla] at hr
                  cases hcl : cexec P f m' me' c 0 (lay (.ref 0 :: (st.take me'.na).reverse) me'.ml) [] s with
                  | none => rw [hcl] at hr; cases hr
                  | some vs =>
                    obtain ⟨w, s1⟩ := vs
                    rw [hcl] at hr
                    have hr' : cexec P f mi me c (pc + 3) ls (w.toList ++ r) s1 = some (v, s') := by cases w <;> exact hr
                    have hM := met_of_CW LK hme' (ih m' me' hme') l hdec' (as := .ref 0 :: (st.take me'.na).reverse) (nd_rev (ρ := id) hg3) hla hcl (fun q => absurd q hg0) I.1 (fun q => absurd q hg0)
                    have hB := backOf (R := cRoom P mi me) (p := p) (e := e) (below := below) (s := s₀) (args := args) (len := 3) (W := cats r) hM hZ hcode LK.1.2 hg1 hg2
                    have hdl : me'.na < st.length := by
                      have := congrArg List.length hst
                      simp at this; omega
                    have hsp : st = st.take me'.na ++ .ref 0 :: r := by rw [← hst, List.take_append_drop]
                    have hcell := I.1.1.cell
                    obtain ⟨cel, hc1, hc2⟩ := hcell
                    have key : ∃ (v' : Option Value) (U : State) (Lc : List Loc), Stand p l e (cRoom P mi me) s₀ m args below meth cd U (locs ++ Lc) (co mi c) (zo P mi c) ∧ QC P Z n0 adr m' c w s1 T.heap v' U.heap Lc ∧
                        Steps p.tables e below (T.setTop (mkF m pc L (st.map (va (adr + ·))))) (U.setTop (mkF m (pc + 3) L (v'.toList ++ r.map (va (adr + ·))))) := by
                      have hsm : st.map (va (adr + ·)) = ((st.take me'.na).reverse.map (va (adr + ·))).reverse ++ .ref adr :: r.map (va (adr + ·)) := by
                        conv => lhs; rw [hsp]
                        simp [va]
                      have hll : ∀ sig, parseMethodDescriptor (yOf P me').desc = some sig → ((st.take me'.na).reverse.map (va (adr + ·))).length = sig.parameters.length := lenOf hpar (by simp [hpl]; omega)
                      have hpre : ∀ vm₁, s₀.WarmedH vm₁ → ((Value.ref adr :: (st.take me'.na).reverse.map (va (adr + ·))).toArray = ((Value.ref 0 :: (st.take me'.na).reverse).map (va (adr + ·))).toArray ∧ (T.setVm vm₁).heap = T.heap ∧ co mi c + (cRoom P m' me').cells ≤ (cRoom P mi me).cells ∧ zo P mi c + (cRoom P m' me').slots ≤ (cRoom P mi me).slots) := fun vm₁ _ => by
                        refine ⟨by simp [va], rfl, ?_, ?_⟩
                        · simp only [co, cRoom, if_neg hg0]
                          have := I.1.2.2.2.2
                          split <;> omega
                        · simp only [zo, cRoom, if_neg hg0]
                          have := zs_le P.al c
                          split <;> omega
                      have hz1 : (cRoom P m' me').cells = 0 := by simp [cRoom, hg0]
                      have hz2 : (cRoom P m' me').slots = 0 := by simp [cRoom, hg0]
                      rcases w3 with w3 | ⟨w3, w4⟩
                      · obtain ⟨v', vm₁, ⟨U, lo, ce, sl⟩, -, X', ⟨Lc, hQ, l1, l2, l3⟩, stp⟩ := privCall X hx (y := yOf P me') hown (mv hZ w1) (mv hZ w2) (nF := nF) (mv hZ hnF) (Cond.privateMethod_at (mvP hZ w3 (args := args))) (mv hZ hcode) LK.2.2.2.2.2.2.2.2.2.2.2.1 hB (g := mkF m pc L (st.map (va (adr + ·)))) rfl hsize hc1 hc2 hll hsm (by show 2 * 0 + _ ≤ _; rw [cats_va]; omega) hd hpre
                        dsimp only [Pt.U, Pt.locs, Pt.cells, Pt.slots] at X' hQ l1 l2 l3 stp
                        subst l1 l2 l3
                        rw [hz1, hz2] at X'
                        exact ⟨v', U, Lc, X', hQ, stp⟩
                      · obtain ⟨cq, kq, qa, qb, qc⟩ := isOf hZ rfl I.1.1
                        obtain ⟨v', vm₁, ⟨U, lo, ce, sl⟩, -, X', ⟨Lc, hQ, l1, l2, l3⟩, stp⟩ := X.virtualBack hx (y := yOf P me') (z := yOf P me') hown (mv hZ w1) (mv hZ w3) (notFace_of_selects (args := #[]) (mv hZ w4)) (mv hZ w4) (mv hZ w2) LK.2.2.2.2.2.2.2.2.2.2.2.1 hB qa qc (g := mkF m pc L (st.map (va (adr + ·)))) rfl hsize (Steps.refl _) hll hsm (by show 2 * 0 + _ ≤ _; rw [cats_va]; omega) hd hpre
                        dsimp only [Pt.U, Pt.locs, Pt.cells, Pt.slots] at X' hQ l1 l2 l3 stp
                        subst l1 l2 l3
                        rw [hz1, hz2] at X'
                        exact ⟨v', U, Lc, X', hQ, stp⟩
                    obtain ⟨v', U, Lc, X', ⟨⟨rfl, hva⟩, hF', hH', hK', hS'⟩, stp⟩ := key
                    rw [if_neg hg0] at hH' hS'
                    refine Don.step (fun t q => stp.trans ?_) (ihk p l e s₀ m args below meth cd U (locs ++ Lc) h0 c _ ls (v'.toList ++ r) s1 v s' L hx hZ hown hnm hret hml hlk hs0 hdec hr' X' ⟨hH', I.2.1.app hF', I.2.2.1.trans hK', by rw [hS']; exact I.2.2.2⟩ hL hlen)
                    rw [List.map_append, hva] at q; exact q
                · rw [if_neg hla] at hr; cases hr
              · cases hr
            · cases hr
      -- the rest
      · split at hr
        · split at hr
          · cases hr
          · rename_i h1 hcf
            split at hr
            · rename_i w hw
              cases hr
              have hcf' : mi = 0 → c = P.al.length := fun q => Classical.byContradiction fun z => hcf ⟨q, z⟩
              have hA : HRep P Z T.heap adr (if mi = 0 then P.al.length else c) s := by
                by_cases q : mi = 0
                · rw [if_pos q, ← hcf' q]; exact I.1
                · rw [if_neg q]; exact I.1
              have hB : Array.size T.heap = if mi = 0 then adr + 1 + P.al.length else Array.size h0 := by
                rw [I.2.2.2]
                by_cases q : mi = 0
                · rw [if_pos q, if_pos q, ← hcf' q]
                · rw [if_neg q, if_neg q]
              have hC : co mi c ≤ (cRoom P mi me).cells := by
                simp only [co, cRoom]
                by_cases q : mi = 0
                · rw [if_pos q, if_pos q, ← hcf' q]; exact Nat.le_refl _
                · rw [if_neg q, if_neg q]; exact Nat.le_refl _
              have hD : zo P mi c ≤ (cRoom P mi me).slots := by
                simp only [zo, cRoom]
                by_cases q : mi = 0
                · rw [if_pos q, if_pos q]; exact zs_le _ _
                · rw [if_neg q, if_neg q]; exact Nat.le_refl _
              exact st_ret X hx hret hlk hw hd hn ⟨⟨rfl, cret_va hw⟩, I.2.1, hA, I.2.2.1, hB⟩ hC hD
            · cases hr
        · split at hr
          · rename_i pc' ls' st' hp
            obtain ⟨L', hL', hLs, st⟩ := pstep_sound X hx hp hd hn hL
            have hlen' : ls'.length = me.ml := by rw [← hL'.1, hLs, hL.1]; exact hlen
            exact Don.step st (ihk p l e s₀ m args below meth cd T locs h0 c _ ls' st' s v s' L' hx hZ hown hnm hret hml hlk hs0 hdec hr X I hL' hlen')
          · cases hr
end Jvm.LM

namespace Jvm.LM
open Sem ClassFile Op Lib Jvm.Stand Jvm.Free Jvm.LawKit Jvm.RoadKit
/-! the law's machine: several objects of the class, and one array of ints that it only reads -/
/-- class name, pool to own static method, pool to the class's method, pool index of the constructor, of the class, number of its fields, constants, methods, room: cells, slots -/
abbrev Lw := String × List (Nat × Nat) × List (Nat × Nat) × Nat × Nat × Nat × List (Nat × Value) × List (Nat × Me) × Nat × Nat
def Lw.nm (Q : Lw) : String := Q.1
def Lw.sx (Q : Lw) : List (Nat × Nat) := Q.2.1
def Lw.vx (Q : Lw) : List (Nat × Nat) := Q.2.2.1
def Lw.ci (Q : Lw) : Nat := Q.2.2.2.1
def Lw.cx (Q : Lw) : Nat := Q.2.2.2.2.1
def Lw.nf (Q : Lw) : Nat := Q.2.2.2.2.2.1
def Lw.kx (Q : Lw) : List (Nat × Value) := Q.2.2.2.2.2.2.1
def Lw.ms (Q : Lw) : List (Nat × Me) := Q.2.2.2.2.2.2.2.1
def Lw.rc (Q : Lw) : Nat := Q.2.2.2.2.2.2.2.2.1
def Lw.rs (Q : Lw) : Nat := Q.2.2.2.2.2.2.2.2.2
/-- the objects, how many are made, whether one more is being made -/
abbrev Wd := (Nat → St) × Nat × Bool
abbrev Sc := Option (Nat × (Nat → Int32))
abbrev Rw := Option (Option Value × Wd)
def nr : List Value → Bool
  | [] => true
  | .int _ :: r => nr r
  | .long _ :: r => nr r
  | _ => false
theorem nr_map {l : List Value} (h : nr l = true) (ρ : Nat → Nat) : l.map (va ρ) = l := by
  induction l with
  | nil => rfl
  | cons v r ih => cases v <;> first | (simp only [nr] at h; simp [va, ih h]; done) | (simp [nr] at h)
theorem nr_nd {l : List Value} (h : nr l = true) : nd l = true := by
  induction l with
  | nil => rfl
  | cons v r ih => cases v <;> first | (simp only [nr] at h; simp [nd, ih h]; done) | (simp [nr] at h)
def uo (w : Nat → St) (o : Nat) (s : St) : Nat → St := fun i => if i = o then s else w i
def lstep {α : Type} (P : Cl) (Q : Lw) (sc : Sc) (mi : Nat) (me : Me) (rt : Option Value → Wd → Option α) (cc : Nat → Nat → List Value → St → Rs) (cl : Nat → List Value → Wd → Rw) (k : Nat → Lv → List Value → Wd → Option α) (i : Instr) (pc : Nat) (ls : Lv) (st : List Value) (w : Wd) : Option α :=
  match i with
  | .iaload => match sc, st with
    | some (n, g), .int j :: .ref 0 :: r => if inb n j then k (pc + 1) ls (.int (g (ix j)) :: r) w else none
    | _, _ => none
  | .arraylength => match sc, st with
    | some (n, _), .ref 0 :: r => k (pc + 1) ls (.int (Int32.ofNat n) :: r) w
    | _, _ => none
  | .ldc x => match asc Q.kx x with | some (.int z) => k (pc + 2) ls (.int z :: st) w | _ => none
  | .ldc2_w x => match asc Q.kx x with | some (.long z) => k (pc + 3) ls (.long z :: st) w | _ => none
  | .new x => if mi = 0 ∧ x = Q.cx ∧ w.2.2 = false ∧ (w.2.1 + 1) * (P.al.length + 1) ≤ Q.rc ∧ (w.2.1 + 1) * (Q.nf + zs P.al P.al.length) ≤ Q.rs then
      k (pc + 3) ls (.ref (w.2.1 + 1) :: st) (uo w.1 w.2.1 s0, w.2.1, true) else none
  | .invokespecial x => match asc P.ms 0 with
    | none => none
    | some me' => match st.drop me'.na with
      | .ref (o + 1) :: r => if x = Q.ci ∧ mi = 0 ∧ o = w.2.1 ∧ w.2.2 = true ∧ me'.rf + 1 ≤ me.rf ∧ cats r + (me'.ml + 11) + me'.rl ≤ me.rl ∧ nr (st.take me'.na) = true ∧ (w.2.1 + 1) * (P.al.length + 1) ≤ Q.rc ∧ (w.2.1 + 1) * (Q.nf + zs P.al P.al.length) ≤ Q.rs then
          (match cc 0 0 (.ref 0 :: (st.take me'.na).reverse) (w.1 o) with
           | some (none, s') => k (pc + 3) ls r (uo w.1 o s', w.2.1 + 1, false)
           | _ => none) else none
      | _ => none
  | .invokevirtual x => match asc Q.vx x with
    | none => none
    | some m' => match asc P.ms m' with
      | none => none
      | some me' => match st.drop me'.na with
        | .ref (o + 1) :: r => if m' ≠ 0 ∧ o < w.2.1 ∧ me'.rf + 1 ≤ me.rf ∧ cats r + (me'.ml + 11) + me'.rl ≤ me.rl ∧ nr (st.take me'.na) = true then
            (match cc m' P.al.length (.ref 0 :: (st.take me'.na).reverse) (w.1 o) with
             | some (none, s') => k (pc + 3) ls r (uo w.1 o s', w.2.1, w.2.2)
             | some (some v, s') => k (pc + 3) ls (v :: r) (uo w.1 o s', w.2.1, w.2.2)
             | none => none) else none
        | _ => none
  | .invokestatic x => match asc Q.sx x with
    | none => none
    | some m' => match asc Q.ms m' with
      | none => none
      | some me' => if m' ≠ 0 ∧ me'.na ≤ st.length ∧ me'.rf + 1 ≤ me.rf ∧ cats (st.drop me'.na) + (me'.ml + 11) + me'.rl ≤ me.rl ∧ nd (st.take me'.na) = true then
          (match cl m' (st.take me'.na).reverse w with
           | some (none, w') => k (pc + 3) ls (st.drop me'.na) w'
           | some (some v, w') => k (pc + 3) ls (v :: st.drop me'.na) w'
           | none => none) else none
  | i => if isRet i = true then (match cret me st i with | some v => rt v w | none => none)
    else match pstep i pc ls st with | some (pc', ls', st') => k pc' ls' st' w | none => none
def lexec (P : Cl) (Q : Lw) (sc : Sc) : Nat → Nat → Me → Nat → Lv → List Value → Wd → Rw
  | 0, _, _, _, _, _, _ => none
  | f + 1, mi, me, pc, ls, st, w => match fetch me.cd pc with
    | none => none
    | some (i, _) => lstep P Q sc mi me (fun v w => some (v, w)) (ccall P f) (fun m' as w => match asc Q.ms m' with | some me' => (if (layA as).length ≤ me'.ml then lexec P Q sc f m' me' 0 (lay as me'.ml) [] w else none) | none => none) (lexec P Q sc f mi me) i pc ls st w
theorem lexec_cnt {P : Cl} {Q : Lw} {sc : Sc} : ∀ f mi me pc ls st w v w', mi ≠ 0 → lexec P Q sc f mi me pc ls st w = some (v, w') → w'.2 = w.2 := by
  intro f
  induction f with
  | zero => intro mi me pc ls st w v w' _ h; cases h
  | succ f ih =>
    intro mi me pc ls st w v w' h0 h
    simp only [lexec] at h
    split at h
    · cases h
    · unfold lstep at h
      split at h
      · split at h
        · split at h
          · exact ih _ _ _ _ _ _ _ _ h0 h
          · cases h
        · cases h
      · split at h
        · exact ih _ _ _ _ _ _ _ _ h0 h
        · cases h
      · split at h
        · exact ih _ _ _ _ _ _ _ _ h0 h
        · cases h
      · split at h
        · exact ih _ _ _ _ _ _ _ _ h0 h
        · cases h
      · split at h
        · rename_i q; exact absurd q.1 h0
        · cases h
      · split at h
        · cases h
        · split at h
          · split at h
            · rename_i q; exact absurd q.2.1 h0
            · cases h
          · cases h
      · split at h
        · cases h
        · split at h
          · cases h
          · split at h
            · split at h
              · split at h
                · exact (ih _ _ _ _ _ _ _ _ h0 h).trans rfl
                · exact (ih _ _ _ _ _ _ _ _ h0 h).trans rfl
                · cases h
              · cases h
            · cases h
      · split at h
        · cases h
        · split at h
          · cases h
          · rename_i me' hme'
            split at h
            · rename_i hg
              dsimp only at h
              rw [hme'] at h
              dsimp only at h
              split at h
              · rename_i w2 hc
                split at hc
                · exact (ih _ _ _ _ _ _ _ _ h0 h).trans (ih _ _ _ _ _ _ _ _ hg.1 hc)
                · cases hc
              · rename_i u w2 hc
                split at hc
                · exact (ih _ _ _ _ _ _ _ _ h0 h).trans (ih _ _ _ _ _ _ _ _ hg.1 hc)
                · cases hc
              · cases h
            · cases h
      · split at h
        · split at h
          · cases h; rfl
          · cases h
        · split at h
          · exact ih _ _ _ _ _ _ _ _ h0 h
          · cases h
def lcall (P : Cl) (Q : Lw) (sc : Sc) (f m' : Nat) (as : List Value) (w : Wd) : Rw := match asc Q.ms m' with | some me' => (if (layA as).length ≤ me'.ml then lexec P Q sc f m' me' 0 (lay as me'.ml) [] w else none) | none => none
def zOf (Q : Lw) (me : Me) : MethodName := ⟨Q.nm, me.nm, me.ds⟩
def LinkL (P : Cl) (Q : Lw) (Z : State) (a0 : Array Value) : Prop :=
  ((Cond.classLink Q.nm Q.cx P.nm).before a0 Z = true ∧ (Cond.instantiable P.nm Q.nf).before a0 Z = true) ∧
  (∀ me, asc P.ms 0 = some me → (Cond.methodLink Q.nm Q.ci (yOf P me)).before a0 Z = true ∧ (Cond.instanceMethod (yOf P me)).before a0 Z = true ∧ me.rt = 0) ∧
  (∀ x m', asc Q.vx x = some m' → ∀ me, asc P.ms m' = some me → (Cond.methodLink Q.nm x (yOf P me)).before a0 Z = true ∧ (Cond.declares (yOf P me)).before a0 Z = true ∧ (Cond.instanceMethod (yOf P me)).before a0 Z = true ∧ (Cond.selects P.nm (yOf P me) (yOf P me)).before a0 Z = true) ∧
  (∀ x m', asc Q.sx x = some m' → ∀ me, asc Q.ms m' = some me → (Cond.methodLink Q.nm x (zOf Q me)).before a0 Z = true ∧ (Cond.static (zOf Q me)).before a0 Z = true ∧ (Cond.initialized Q.nm).before a0 Z = true) ∧
  (∀ x v, asc Q.kx x = some v → match v with
    | .int z => (Cond.constant Q.nm x z).before a0 Z = true
    | .long z => (Cond.constantLong Q.nm x z).before a0 Z = true
    | _ => True) ∧
  (∀ mi me, asc Q.ms mi = some me → mi ≠ 0 → ∃ (bytes : ByteArray) (ps : List FieldType), (Cond.code (zOf Q me) bytes me.ml (retOf me.rt)).before a0 Z = true ∧
    (∀ pc i n, fetch me.cd pc = some (i, n) → decode bytes pc = .ok (i, n) ∧ (isSw i = true ∨ n = ilen i)) ∧ parseMethodDescriptor me.ds = some ⟨ps, retOf me.rt⟩ ∧ ps.length = me.na) ∧
  plainName Q.nm = true ∧ (Q.nm ≠ "java/lang/invoke/MethodHandle" ∧ Q.nm ≠ "java/lang/invoke/VarHandle")
def rho (a n0 K : Nat) : Nat → Nat
  | 0 => a
  | o + 1 => n0 + o * K
def SRep (Z : State) (h : Heap) (a n0 : Nat) (sc : Sc) : Prop :=
  match sc with
  | none => True
  | some (n, g) => a < n0 ∧ ∃ cl : Cell, Arr Z h a cl .int ∧ cl.slots.size = n ∧ ∀ i, i < n → cl.slots[i]? = some (.int (g i))
def LRep (P : Cl) (Z : State) (h : Heap) (a n0 : Nat) (sc : Sc) (w : Wd) : Prop :=
  SRep Z h a n0 sc ∧ (∀ o, o < w.2.1 → HRep P Z h (n0 + o * (P.al.length + 1)) P.al.length (w.1 o)) ∧
  (w.2.2 = true → HRep P Z h (n0 + w.2.1 * (P.al.length + 1)) 0 (w.1 w.2.1)) ∧ h.size = n0 + w.2.1 * (P.al.length + 1) + (if w.2.2 = true then 1 else 0)
def lRoom (Q : Lw) (mi : Nat) (me : Me) : Room := { frames := me.rf, cells := if mi = 0 then Q.rc else 0, slots := if mi = 0 then Q.rs else 0, locals := me.rl }
def QL (P : Cl) (Z : State) (a n0 : Nat) (sc : Sc) (v : Option Value) (w' : Wd) (u : Option Value) (h : Heap) (L : List Loc) : Prop :=
  (u = v ∧ ∀ ρ, u.toList.map (va ρ) = u.toList) ∧ Fr n0 L ∧ LRep P Z h a n0 sc w'
def lco (P : Cl) (mi : Nat) (w : Wd) : Nat := if mi = 0 then w.2.1 * (P.al.length + 1) + (if w.2.2 = true then 1 else 0) else 0
def lzo (P : Cl) (Q : Lw) (mi : Nat) (w : Wd) : Nat := if mi = 0 then w.2.1 * (Q.nf + zs P.al P.al.length) + (if w.2.2 = true then Q.nf else 0) else 0
def LW (P : Cl) (Q : Lw) (sc : Sc) (Z : State) (a n0 f mi : Nat) (me : Me) : Prop :=
  ∀ (p : Program) (l : Launch) (e : Env) (s₀ : State) (m : MethodId) (args : Array Value) (below : List Frame) (meth : Method) (cd : Code) (T : State) (locs : List Loc) (pc : Nat) (ls : Lv) (st : List Value) (w : Wd) (v : Option Value) (w' : Wd) (L : Array Slot),
    p.tables.exec = Jvm.exec → Z.Warmed39 s₀.vm → s₀.vm.findClass Q.nm = some m.cls → meth.sig.returnType = retOf me.rt → cd.maxLocals = me.ml → meth.locks = false → (mi = 0 → s₀.heap.size = n0) →
    (∀ pc i n, fetch me.cd pc = some (i, n) → decode cd.code pc = .ok (i, n) ∧ (isSw i = true ∨ n = ilen i)) →
    lexec P Q sc f mi me pc ls st w = some (v, w') →
    Stand p l e (lRoom Q mi me) s₀ m args below meth cd T locs (lco P mi w) (lzo P Q mi w) → w.2.1 * (P.al.length + 1) + (if w.2.2 = true then 1 else 0) ≤ (lRoom Q 0 me).cells → w.2.1 * (Q.nf + zs P.al P.al.length) + (if w.2.2 = true then Q.nf else 0) ≤ (lRoom Q 0 me).slots →
    LRep P Z T.heap a n0 sc w → Fr n0 locs → LR (rho a n0 (P.al.length + 1)) ls L → ls.length = me.ml →
    Don p e below s₀ (lRoom Q mi me) (QL P Z a n0 sc v w') (T.setTop (mkF m pc L (st.map (va (rho a n0 (P.al.length + 1))))))
theorem met_of_LW {P : Cl} {Q : Lw} {sc : Sc} {Z : State} {a0 : Array Value} (LL : LinkL P Q Z a0) {a n0 f mi : Nat} {me : Me} (hW : LW P Q sc Z a n0 f mi me) (hmi : mi ≠ 0) (l : Launch) {bytes : ByteArray}
    (hdec : ∀ pc i n, fetch me.cd pc = some (i, n) → decode bytes pc = .ok (i, n) ∧ (isSw i = true ∨ n = ilen i))
    {as : List Value} (hd : ∀ v ∈ as, ∀ x, v ≠ .double x) (hlen : (layA as).length ≤ me.ml) {w w' : Wd} {v : Option Value} {h : Heap} (hr : lexec P Q sc f mi me 0 (lay as me.ml) [] w = some (v, w'))
    (hc1 : w.2.1 * (P.al.length + 1) + (if w.2.2 = true then 1 else 0) ≤ Q.rc) (hc2 : w.2.1 * (Q.nf + zs P.al P.al.length) + (if w.2.2 = true then Q.nf else 0) ≤ Q.rs)
    (H : LRep P Z h a n0 sc w) :
    MetFree l (zOf Q me) (head1 [Cond.code (zOf Q me) bytes me.ml (retOf me.rt)] (lRoom Q mi me)) (fun b U => b = (as.map (va (rho a n0 (P.al.length + 1)))).toArray ∧ Z.Warmed39 U.vm ∧ U.heap = h) (fun _ _ _ _ _ => True)
      (fun _ U o U' => ∃ u L, o = .returned u ∧ QL P Z a n0 sc v w' u U'.heap L ∧ FrameEnd U o U' L (lRoom Q mi me).cells (lRoom Q mi me).slots) := by
  refine MetFree.of_bodySF (plainFor_of_name LL.2.2.2.2.2.2.1) hisR ?_
  intro p e s₀ m args below meth cd s₁ Bd hml hP hK
  obtain ⟨rfl, hZ, hh⟩ := hP
  have e0 : s₁.heap = h := by rw [← hh, Bd.state]; rfl
  have X0 : Stand p l e (lRoom Q mi me) s₀ m _ below meth cd s₁ [] 0 0 := Stand.of_body Bd
  have hown : s₀.vm.findClass Q.nm = some m.cls := findClass_of_methodNamed Bd.named
  have hk0 : lco P mi w = 0 := by simp [lco, hmi]
  have hz0 : lzo P Q mi w = 0 := by simp [lzo, hmi]
  have D := hW p l e s₀ m _ below meth cd s₁ [] 0 (lay as me.ml) [] w v w' _ Bd.exec hZ hown Bd.returns hml Bd.notSynchronized (fun q => absurd q hmi)
    (fun pc i n q => by rw [Bd.bytes]; exact hdec pc i n q) hr (by rw [hk0, hz0]; exact X0) (by simpa [lRoom] using hc1) (by simpa [lRoom] using hc2) (by rw [e0]; exact H) (Fr.nil n0) (lay_LR hd hlen) (lay_len hlen)
  obtain ⟨s₂, o, a1, a2, a3, u, L, a4, a5, a6⟩ := D
  exact ⟨s₂, o, a1, a2, a3, u, L, a4, a5, a6⟩
end Jvm.LM

namespace Jvm.LM
open Sem ClassFile Op Lib Jvm.Stand Jvm.Free Jvm.LawKit Jvm.RoadKit
theorem rng {a b K : Nat} (h : a < b) : a * K + K ≤ b * K := by
  have := Nat.mul_le_mul_right K (show a + 1 ≤ b from h)
  rw [Nat.succ_mul] at this; exact this
theorem SRep.congr {Z : State} {h h' : Heap} {a n0 : Nat} {sc : Sc} (H : SRep Z h a n0 sc) (e : ∀ x, x < n0 → h'[x]? = h[x]?) : SRep Z h' a n0 sc := by
  unfold SRep at H ⊢
  split
  · trivial
  · obtain ⟨h1, cl, ⟨q1, q2⟩, q3⟩ := H
    exact ⟨h1, cl, ⟨by rw [e a h1]; exact q1, q2⟩, q3⟩
/-- one object has moved, the others stand -/
theorem LRep.call {P : Cl} {Z : State} {h h' : Heap} {a n0 o : Nat} {sc : Sc} {w : Wd} {s' : St} (H : LRep P Z h a n0 sc w) (ho : o < w.2.1) (K : Kp h h' (n0 + o * (P.al.length + 1)) P.al.length) (hs : h'.size = h.size) (H' : HRep P Z h' (n0 + o * (P.al.length + 1)) P.al.length s') :
    LRep P Z h' a n0 sc (uo w.1 o s', w.2.1, w.2.2) := by
  obtain ⟨h1, h2, h3, h4⟩ := H
  refine ⟨h1.congr fun x hx => K x (Or.inl (by omega)), fun o' ho' => ?_, fun q => ?_, by rw [hs]; exact h4⟩
  · by_cases e : o' = o
    · subst e; simpa [uo] using H'
    · have := (h2 o' ho').congr (h' := h') fun x hx1 hx2 => K x (by
        rcases Nat.lt_or_gt_of_ne e with q | q
        · have := rng (K := P.al.length + 1) q; omega
        · have := rng (K := P.al.length + 1) q; omega)
      simpa [uo, e] using this
  · have e : w.2.1 ≠ o := by omega
    have := (h3 q).congr (h' := h') fun x hx1 hx2 => K x (by have := rng (K := P.al.length + 1) ho; omega)
    simpa [uo, e] using this
theorem ar1 {x k r y : Nat} (e : y = x + (k + 1)) (h : y ≤ r) : x + 1 + k ≤ r := by omega
theorem ar3 {x k y : Nat} (h : y = x + (k + 1)) : y + 0 = x + 1 + k := by omega
theorem ar4 {x f z y : Nat} (h : y = x + (f + z)) : y + 0 = x + f + z := by omega
theorem ar5 {x f z r y : Nat} (e : y = x + (f + z)) (h : y ≤ r) : x + f + z ≤ r := by omega
theorem ar6 {n x k y : Nat} (h : y = x + (k + 1)) : n + x + 1 + k = n + y + 0 := by omega
theorem lwalk {P : Cl} {Q : Lw} {sc : Sc} {Z : State} {a0 : Array Value} (LK : LinkC P Z a0) (LL : LinkL P Q Z a0) {a n0 : Nat} : ∀ f mi me, asc Q.ms mi = some me → LW P Q sc Z a n0 f mi me := by
  intro f
  induction f with
  | zero =>
    intro mi me hme p l e s₀ m args below meth cd T locs pc ls st w v w' L hx hZ hown hret hml hlk hs0 hdec hr
    cases hr
  | succ f ih =>
    intro mi me hme p l e s₀ m args below meth cd T locs pc ls st w v w' L hx hZ hown hret hml hlk hs0 hdec hr X hc1 hc2 I hFr hL hlen
    simp only [lexec] at hr
    split at hr
    · cases hr
    · rename_i i n hf
      obtain ⟨hd, hn⟩ := hdec pc i n hf
      have ihk := ih mi me hme
      have hsize : L.size = cd.maxLocals := by rw [hL.1, hlen, hml]
      unfold lstep at hr
      split at hr
      -- iaload
      · obtain rfl := hn.resolve_left Bool.false_ne_true
        split at hr
        · rename_i N g j r
          split at hr
          · rename_i hin
            obtain ⟨ha, cl, A, hN, hv⟩ : SRep Z T.heap a n0 (some (N, g)) := I.1
            refine Don.step (fun t q => ?_) (ihk p l e s₀ m args below meth cd T locs _ ls (.int (g (ix j)) :: r) w v w' L hx hZ hown hret hml hlk hs0 hdec hr X hc1 hc2 I hFr hL hlen)
            exact X.iaload hx A.1 (State.isArrayOf_alike hZ.alike A.2.1) A.2.2 (by rw [hN]; exact inb_not hin) (hv (ix j) (inb_ix hin)) (g := mkF m pc L (.int j :: .ref a :: r.map (va (rho a n0 (P.al.length + 1))))) rfl rfl hd t q
          · cases hr
        · cases hr
      -- arraylength
      · obtain rfl := hn.resolve_left Bool.false_ne_true
        split at hr
        · rename_i N g r
          obtain ⟨ha, cl, A, hN, hv⟩ : SRep Z T.heap a n0 (some (N, g)) := I.1
          refine Don.step (fun t q => ?_) (ihk p l e s₀ m args below meth cd T locs _ ls (.int (Int32.ofNat N) :: r) w v w' L hx hZ hown hret hml hlk hs0 hdec hr X hc1 hc2 I hFr hL hlen)
          exact X.arraylength hx A.1 (State.isArrayOf_alike hZ.alike A.2.1) (g := mkF m pc L (.ref a :: r.map (va (rho a n0 (P.al.length + 1))))) rfl rfl hd t (by rw [hN]; exact q)
        · cases hr
      -- constants
      · obtain rfl := hn.resolve_left Bool.false_ne_true
        split at hr
        · rename_i z hg
          exact Don.step (fun t q => X.ldcI hx hown (mv hZ (LL.2.2.2.2.1 _ _ hg)) (g := mkF m pc L (st.map (va (rho a n0 (P.al.length + 1))))) rfl hd q) (ihk p l e s₀ m args below meth cd T locs _ ls (.int z :: st) w v w' L hx hZ hown hret hml hlk hs0 hdec hr X hc1 hc2 I hFr hL hlen)
        · cases hr
      · obtain rfl := hn.resolve_left Bool.false_ne_true
        split at hr
        · rename_i z hg
          exact Don.step (fun t q => X.ldc2J hx hown (mv hZ (LL.2.2.2.2.1 _ _ hg)) (g := mkF m pc L (st.map (va (rho a n0 (P.al.length + 1))))) rfl hd q) (ihk p l e s₀ m args below meth cd T locs _ ls (.long z :: st) w v w' L hx hZ hown hret hml hlk hs0 hdec hr X hc1 hc2 I hFr hL hlen)
        · cases hr
      -- new
      · obtain rfl := hn.resolve_left Bool.false_ne_true
        split at hr
        · rename_i hg
          obtain ⟨rfl, rfl, hp, hg1, hg2⟩ := hg
          obtain ⟨os, cnt, pend⟩ := w
          dsimp only at hp hg1 hg2 hr
          subst hp
          have hk : lco P 0 (os, cnt, false) = cnt * (P.al.length + 1) := by simp [lco]
          have hz : lzo P Q 0 (os, cnt, false) = cnt * (Q.nf + zs P.al P.al.length) := by simp [lzo]
          have m1 : (cnt + 1) * (P.al.length + 1) = cnt * (P.al.length + 1) + (P.al.length + 1) := Nat.succ_mul ..
          have m2 : (cnt + 1) * (Q.nf + zs P.al P.al.length) = cnt * (Q.nf + zs P.al P.al.length) + (Q.nf + zs P.al P.al.length) := Nat.succ_mul ..
          rw [hk, hz] at X
          obtain ⟨T', h', X', q1, E, A, D, -, st1⟩ := newO X hx hZ hown LL.1.1 LL.1.2 LK.1.2 rfl (g := mkF m pc L (st.map (va (rho a n0 (P.al.length + 1))))) rfl hd (by simp only [lRoom, if_true]; omega) (by simp only [lRoom, if_true]; omega)
          obtain ⟨i1, i2, i3, i4⟩ := I
          have hsz : T.heap.size = n0 + cnt * (P.al.length + 1) := by simpa using i4
          have hsz' : h'.size = n0 + cnt * (P.al.length + 1) + 1 := by
            have g1 : T'.heap.size ≤ s₀.heap.size + (cnt * (P.al.length + 1) + 1) := X'.heapSize
            have g2 : T.heap.size < Array.size h' := A.lt
            rw [q1, hs0 rfl] at g1
            rw [hsz] at g2
            omega
          have same : ∀ x, x < T.heap.size → h'[x]? = T.heap[x]? := fun x hx => by
            obtain ⟨cc, hcc⟩ : ∃ cc, T.heap[x]? = some cc := ⟨T.heap[x], Array.getElem?_eq_getElem hx⟩
            rw [hcc]; exact E.2 _ _ hcc
          have I' : LRep P Z T'.heap a n0 sc (uo os cnt s0, cnt, true) := by
            rw [q1]
            refine ⟨i1.congr fun x hx => same x (by omega), fun o ho => ?_, fun _ => ?_, by simpa using hsz'⟩
            · have := (i2 o ho).congr (h' := h') fun x hx1 hx2 => same x (by have := rng (K := P.al.length + 1) (show o < cnt from ho); omega)
              simpa [uo, show o ≠ cnt from Nat.ne_of_lt ho] using this
            · simp only [uo, if_true]
              rw [hsz] at A D
              refine ⟨A, fun k fe hk => ?_, fun j tt N hj hc => absurd hc (Nat.not_lt_zero _), fun j i hj => ⟨rfl, rfl⟩, Nat.zero_le _⟩
              have q := D (laid_of LK hk) (LK.2.2.2.1 k fe hk)
              have e2 : Fval (n0 + cnt * (P.al.length + 1)) 0 s0 k fe = defaultValue (fkTy P fe.2.2.1) := by
                simp only [Fval]; split
                · rename_i e3; rw [e3]; rfl
                · rename_i e3; rw [e3]; rfl
                · rename_i e3; rw [e3]; rfl
                · rename_i e3; rw [e3]; rfl
              rw [e2]; exact q
          refine Don.step (fun t q => st1 t ?_) (ihk p l e s₀ m args below meth cd T' locs _ ls (.ref (cnt + 1) :: st) _ v w' L hx hZ hown hret hml hlk hs0 hdec hr (by simpa [lco, lzo] using X') (by simp only [lRoom, if_true]; omega) (by simp only [lRoom, if_true]; omega) I' hFr hL hlen)
          rw [hsz]; exact q
        · cases hr
      -- the constructor
      · obtain rfl := hn.resolve_left Bool.false_ne_true
        split at hr
        · cases hr
        · rename_i me' hme'
          split at hr
          · rename_i o r hst
            split at hr
            · rename_i hg
              obtain ⟨rfl, rfl, hgo, hp, hg1, hg2, hg3, hg4, hg5⟩ := hg
              obtain ⟨os, cnt, pend⟩ := w
              dsimp only at hgo hp hg1 hg2 hr hg4 hg5
              subst hp hgo
              obtain ⟨bytes, ps, hcode, hdec', hpar, hpl⟩ := LK.2.2.2.2.2.2.2.2.1 0 me' hme'
              obtain ⟨w1, w2, hrt⟩ := LL.2.1 me' hme'
              have hcode' := hcode
              rw [hrt] at hcode'
              have hini := LK.2.2.2.2.2.2.2.2.2.2.2.2 me' hme'
              have m1 : (o + 1) * (P.al.length + 1) = o * (P.al.length + 1) + (P.al.length + 1) := Nat.succ_mul ..
              have m2 : (o + 1) * (Q.nf + zs P.al P.al.length) = o * (Q.nf + zs P.al P.al.length) + (Q.nf + zs P.al P.al.length) := Nat.succ_mul ..
              simp only [ccall, hme'] at hr
              by_cases hla : (layA (Value.ref 0 :: (st.take me'.na).reverse)).length ≤ me'.ml
              · rw [if_pos hla] at hr
                cases hcl : cexec P f 0 me' 0 0 (lay (.ref 0 :: (st.take me'.na).reverse) me'.ml) [] (os o) with
                | none => rw [hcl] at hr; cases hr
                | some vs =>
                  obtain ⟨u, s1⟩ := vs
                  rw [hcl] at hr
                  cases u with
                  | some u => cases hr
                  | none =>
                    dsimp only at hr
                    obtain ⟨i1, i2, i3, i4⟩ := I
                    have hsz : T.heap.size = n0 + o * (P.al.length + 1) + 1 := by simpa using i4
                    have hM := met_of_CW LK hme' (cwalk LK (n0 := n0) (adr := n0 + o * (P.al.length + 1)) (Nat.le_add_right _ _) f 0 me' hme') l hdec' (as := .ref 0 :: (st.take me'.na).reverse) (nd_rev (ρ := id) (nr_nd hg3)) hla hcl (fun _ => rfl) (i3 rfl) (fun _ => hsz)
                    have hB := backOf (R := lRoom Q 0 me) (p := p) (e := e) (below := below) (s := s₀) (args := args) (len := 3) (W := cats r) hM hZ hcode LK.1.2 hg1 hg2
                    have hdl : me'.na < st.length := by
                      have := congrArg List.length hst
                      simp at this; omega
                    have hsp : st = st.take me'.na ++ .ref (o + 1) :: r := by rw [← hst, List.take_append_drop]
                    have hrv : ∀ ρ : Nat → Nat, (st.take me'.na).reverse.map (va ρ) = (st.take me'.na).reverse := fun ρ => by rw [List.map_reverse, nr_map hg3]
                    have hsm : st.map (va (rho a n0 (P.al.length + 1))) = ((st.take me'.na).reverse).reverse ++ .ref (n0 + o * (P.al.length + 1)) :: r.map (va (rho a n0 (P.al.length + 1))) := by
                      conv => lhs; rw [hsp]
                      rw [List.map_append, nr_map hg3]; simp [va, rho]
                    have hll : ∀ sig, parseMethodDescriptor (yOf P me').desc = some sig → ((st.take me'.na).reverse).length = sig.parameters.length := lenOf hpar (by simp [hpl]; omega)
                    have hk : lco P 0 (os, o, true) = o * (P.al.length + 1) + 1 := by simp [lco]
                    have hz : lzo P Q 0 (os, o, true) = o * (Q.nf + zs P.al P.al.length) + Q.nf := by simp [lzo]
                    rw [hk, hz] at X
                    have hpre : ∀ vm₁, s₀.WarmedH vm₁ → ((Value.ref (n0 + o * (P.al.length + 1)) :: (st.take me'.na).reverse).toArray = ((Value.ref 0 :: (st.take me'.na).reverse).map (va ((n0 + o * (P.al.length + 1)) + ·))).toArray ∧ (T.setVm vm₁).heap = T.heap ∧ o * (P.al.length + 1) + 1 + (cRoom P 0 me').cells ≤ (lRoom Q 0 me).cells ∧ o * (Q.nf + zs P.al P.al.length) + Q.nf + (cRoom P 0 me').slots ≤ (lRoom Q 0 me).slots) := fun vm₁ _ => by
                      refine ⟨by rw [List.map_cons, hrv]; rfl, rfl, ?_, ?_⟩
                      · show o * (P.al.length + 1) + 1 + P.al.length ≤ Q.rc
                        exact ar1 m1 hg4
                      · show o * (Q.nf + zs P.al P.al.length) + Q.nf + zs P.al P.al.length ≤ Q.rs
                        exact ar5 m2 hg5
                    obtain ⟨v', vm₁, ⟨U, lo, ce, sl⟩, -, X', ⟨Lc, hQ, l1, l2, l3⟩, stp⟩ := X.specialBack hx (y := yOf P me') hini hown (mv hZ w1) (mv hZ w2) (mv hZ hcode') LK.2.2.2.2.2.2.2.2.2.2.2.1 hB (g := mkF m pc L (st.map (va (rho a n0 (P.al.length + 1))))) rfl hsize (Steps.refl _) hll hsm (by show 2 * 0 + _ ≤ _; rw [cats_va]; omega) hd hpre
                    dsimp only [Pt.U, Pt.locs, Pt.cells, Pt.slots] at X' hQ l1 l2 l3 stp
                    subst l1 l2 l3
                    obtain ⟨⟨rfl, -⟩, hF', hH', hK', hS'⟩ := hQ
                    rw [if_pos rfl] at hH' hS'
                    have I' : LRep P Z U.heap a n0 sc (uo os o s1, o + 1, false) := by
                      refine ⟨i1.congr fun x hx => hK' x (Or.inl (by omega)), fun o' ho' => ?_, fun q => by simp at q, by rw [hS']; show n0 + o * (P.al.length + 1) + 1 + P.al.length = n0 + (o + 1) * (P.al.length + 1) + 0; exact ar6 m1⟩
                      by_cases e2 : o' = o
                      · subst e2; simpa [uo] using hH'
                      · have ho2 : o' < o := by have : o' < o + 1 := ho'; omega
                        have := (i2 o' ho2).congr (h' := U.heap) fun x hx1 hx2 => hK' x (by have := rng (K := P.al.length + 1) ho2; omega)
                        simpa [uo, e2] using this
                    refine Don.step (fun t q => stp.trans q) (ihk p l e s₀ m args below meth cd U (locs ++ Lc) _ ls r _ v w' L hx hZ hown hret hml hlk hs0 hdec hr ?_ (by show (o + 1) * (P.al.length + 1) + 0 ≤ Q.rc; omega) (by show (o + 1) * (Q.nf + zs P.al P.al.length) + 0 ≤ Q.rs; omega) I' (hFr.app hF') hL hlen)
                    have h1 : lco P 0 (uo os o s1, o + 1, false) = o * (P.al.length + 1) + 1 + (cRoom P 0 me').cells := by
                      show (o + 1) * (P.al.length + 1) + 0 = o * (P.al.length + 1) + 1 + P.al.length
                      exact ar3 m1
                    have h2 : lzo P Q 0 (uo os o s1, o + 1, false) = o * (Q.nf + zs P.al P.al.length) + Q.nf + (cRoom P 0 me').slots := by
                      show (o + 1) * (Q.nf + zs P.al P.al.length) + 0 = o * (Q.nf + zs P.al P.al.length) + Q.nf + zs P.al P.al.length
                      exact ar4 m2
                    rw [h1, h2]; exact X'
              · rw [if_neg hla] at hr; cases hr
            · cases hr
          · cases hr
      -- a method of the class
      · obtain rfl := hn.resolve_left Bool.false_ne_true
        split at hr
        · cases hr
        · rename_i m' hm'
          split at hr
          · cases hr
          · rename_i me' hme'
            split at hr
            · rename_i o r hst
              split at hr
              · rename_i hg
                obtain ⟨hg0, hgo, hg1, hg2, hg3⟩ := hg
                obtain ⟨bytes, ps, hcode, hdec', hpar, hpl⟩ := LK.2.2.2.2.2.2.2.2.1 m' me' hme'
                obtain ⟨w1, w2, w3, w4⟩ := LL.2.2.1 _ _ hm' me' hme'
                simp only [ccall, hme'] at hr
                by_cases hla : (layA (Value.ref 0 :: (st.take me'.na).reverse)).length ≤ me'.ml
                · rw [if_pos hla] at hr
                  cases hcl : cexec P f m' me' P.al.length 0 (lay (.ref 0 :: (st.take me'.na).reverse) me'.ml) [] (w.1 o) with
                  | none => rw [hcl] at hr; cases hr
                  | some vs =>
                    obtain ⟨u, s1⟩ := vs
                    rw [hcl] at hr
                    have hr' : lexec P Q sc f mi me (pc + 3) ls (u.toList ++ r) (uo w.1 o s1, w.2.1, w.2.2) = some (v, w') := by cases u <;> exact hr
                    have hM := met_of_CW LK hme' (cwalk LK (n0 := n0) (adr := n0 + o * (P.al.length + 1)) (Nat.le_add_right _ _) f m' me' hme') l hdec' (as := .ref 0 :: (st.take me'.na).reverse) (nd_rev (ρ := id) (nr_nd hg3)) hla hcl (fun q => absurd q hg0) (I.2.1 o hgo) (fun q => absurd q hg0)
                    have hB := backOf (R := lRoom Q mi me) (p := p) (e := e) (below := below) (s := s₀) (args := args) (len := 3) (W := cats r) hM hZ hcode LK.1.2 hg1 hg2
                    have hdl : me'.na < st.length := by
                      have := congrArg List.length hst
                      simp at this; omega
                    have hsp : st = st.take me'.na ++ .ref (o + 1) :: r := by rw [← hst, List.take_append_drop]
                    have hrv : ∀ ρ : Nat → Nat, (st.take me'.na).reverse.map (va ρ) = (st.take me'.na).reverse := fun ρ => by rw [List.map_reverse, nr_map hg3]
                    have hsm : st.map (va (rho a n0 (P.al.length + 1))) = ((st.take me'.na).reverse).reverse ++ .ref (n0 + o * (P.al.length + 1)) :: r.map (va (rho a n0 (P.al.length + 1))) := by
                      conv => lhs; rw [hsp]
                      rw [List.map_append, nr_map hg3]; simp [va, rho]
                    have hll : ∀ sig, parseMethodDescriptor (yOf P me').desc = some sig → ((st.take me'.na).reverse).length = sig.parameters.length := lenOf hpar (by simp [hpl]; omega)
                    have hz1 : (cRoom P m' me').cells = 0 := by simp [cRoom, hg0]
                    have hz2 : (cRoom P m' me').slots = 0 := by simp [cRoom, hg0]
                    have hpre : ∀ vm₁, s₀.WarmedH vm₁ → ((Value.ref (n0 + o * (P.al.length + 1)) :: (st.take me'.na).reverse).toArray = ((Value.ref 0 :: (st.take me'.na).reverse).map (va ((n0 + o * (P.al.length + 1)) + ·))).toArray ∧ (T.setVm vm₁).heap = T.heap ∧ lco P mi w + (cRoom P m' me').cells ≤ (lRoom Q mi me).cells ∧ lzo P Q mi w + (cRoom P m' me').slots ≤ (lRoom Q mi me).slots) := fun vm₁ _ => by
                      refine ⟨by rw [List.map_cons, hrv]; rfl, rfl, ?_, ?_⟩
                      · rw [hz1]; simp only [lco, lRoom] at *; split
                        · simpa using hc1
                        · exact Nat.le_refl _
                      · rw [hz2]; simp only [lzo, lRoom] at *; split
                        · simpa using hc2
                        · exact Nat.le_refl _
                    obtain ⟨cq, kq, qa, qb, qc⟩ := isOf hZ rfl (I.2.1 o hgo).1
                    obtain ⟨v', vm₁, ⟨U, lo, ce, sl⟩, -, X', ⟨Lc, hQ, l1, l2, l3⟩, stp⟩ := X.virtualBack hx (y := yOf P me') (z := yOf P me') hown (mv hZ w1) (mv hZ w2) (notFace_of_selects (args := #[]) (mv hZ w4)) (mv hZ w4) (mv hZ w3) LK.2.2.2.2.2.2.2.2.2.2.2.1 hB qa qc (g := mkF m pc L (st.map (va (rho a n0 (P.al.length + 1))))) rfl hsize (Steps.refl _) hll hsm (by show 2 * 0 + _ ≤ _; rw [cats_va]; omega) hd hpre
                    dsimp only [Pt.U, Pt.locs, Pt.cells, Pt.slots] at X' hQ l1 l2 l3 stp
                    subst l1 l2 l3
                    obtain ⟨⟨rfl, hva⟩, hF', hH', hK', hS'⟩ := hQ
                    rw [if_neg hg0] at hH' hS'
                    rw [hz1, hz2] at X'
                    refine Don.step (fun t q => stp.trans ?_) (ihk p l e s₀ m args below meth cd U (locs ++ Lc) _ ls (v'.toList ++ r) _ v w' L hx hZ hown hret hml hlk hs0 hdec hr' X' hc1 hc2 (I.call hgo hK' hS' hH') (hFr.app hF') hL hlen)
                    rw [List.map_append, hva] at q; exact q
                · rw [if_neg hla] at hr; cases hr
              · cases hr
            · cases hr
      -- a static method of the law
      · obtain rfl := hn.resolve_left Bool.false_ne_true
        split at hr
        · cases hr
        · rename_i m' hm'
          split at hr
          · cases hr
          · rename_i me' hme'
            split at hr
            · rename_i hg
              obtain ⟨hg0, hgn, hg1, hg2, hg3⟩ := hg
              obtain ⟨bytes, ps, hcode, hdec', hpar, hpl⟩ := LL.2.2.2.2.2.1 m' me' hme' hg0
              obtain ⟨w1, w2, w3⟩ := LL.2.2.2.1 _ _ hm' me' hme'
              dsimp only at hr
              rw [hme'] at hr
              dsimp only at hr
              by_cases hla : (layA (st.take me'.na).reverse).length ≤ me'.ml
              · rw [if_pos hla] at hr
                cases hcl : lexec P Q sc f m' me' 0 (lay (st.take me'.na).reverse me'.ml) [] w with
                | none => rw [hcl] at hr; cases hr
                | some vs =>
                  obtain ⟨u, w2'⟩ := vs
                  rw [hcl] at hr
                  have hr' : lexec P Q sc f mi me (pc + 3) ls (u.toList ++ st.drop me'.na) w2' = some (v, w') := by cases u <;> exact hr
                  have hndv : ∀ v ∈ (st.take me'.na).reverse, ∀ x, v ≠ .double x := fun v hv x e => nd_spec hg3 v (List.mem_reverse.mp hv) x e
                  have hM := met_of_LW LL (ih m' me' hme') hg0 l hdec' (as := (st.take me'.na).reverse) hndv hla hcl (by simpa [lRoom] using hc1) (by simpa [lRoom] using hc2) I
                  have hB := backOf (R := lRoom Q mi me) (p := p) (e := e) (below := below) (s := s₀) (args := args) (len := 3) (W := cats (st.drop me'.na)) hM hZ hcode w3 hg1 hg2
                  have hsm : st.map (va (rho a n0 (P.al.length + 1))) = (((st.take me'.na).reverse).map (va (rho a n0 (P.al.length + 1)))).reverse ++ (st.drop me'.na).map (va (rho a n0 (P.al.length + 1))) := by
                    conv => lhs; rw [← List.take_append_drop me'.na st]
                    simp
                  have hll : ∀ sig, parseMethodDescriptor (zOf Q me').desc = some sig → (((st.take me'.na).reverse).map (va (rho a n0 (P.al.length + 1)))).length = sig.parameters.length := lenOf hpar (by simp [hpl]; omega)
                  have hz1 : (lRoom Q m' me').cells = 0 := by simp [lRoom, hg0]
                  have hz2 : (lRoom Q m' me').slots = 0 := by simp [lRoom, hg0]
                  have hpre : ∀ vm₁, s₀.WarmedH vm₁ → ((((st.take me'.na).reverse).map (va (rho a n0 (P.al.length + 1)))).toArray = (((st.take me'.na).reverse).map (va (rho a n0 (P.al.length + 1)))).toArray ∧ (T.setVm vm₁).heap = T.heap ∧ lco P mi w + (lRoom Q m' me').cells ≤ (lRoom Q mi me).cells ∧ lzo P Q mi w + (lRoom Q m' me').slots ≤ (lRoom Q mi me).slots) := fun vm₁ _ => by
                    refine ⟨rfl, rfl, ?_, ?_⟩
                    · rw [hz1]; simp only [lco, lRoom] at *; split
                      · simpa using hc1
                      · exact Nat.le_refl _
                    · rw [hz2]; simp only [lzo, lRoom] at *; split
                      · simpa using hc2
                      · exact Nat.le_refl _
                  obtain ⟨v', vm₁, ⟨U, lo, ce, sl⟩, -, X', ⟨Lc, hQ, l1, l2, l3⟩, stp⟩ := Jvm.LawKit.callS X hx (y := zOf Q me') hown (mv hZ w1) (mv hZ w2) (mv hZ w3) (mv hZ hcode) LL.2.2.2.2.2.2.2 hB (g := mkF m pc L (st.map (va (rho a n0 (P.al.length + 1))))) rfl hsize hll hsm (by show 2 * 0 + _ ≤ _; rw [cats_va]; omega) hd hpre
                  dsimp only [Pt.U, Pt.locs, Pt.cells, Pt.slots] at X' hQ l1 l2 l3 stp
                  subst l1 l2 l3
                  obtain ⟨⟨rfl, hva⟩, hF', hI'⟩ := hQ
                  rw [hz1, hz2] at X'
                  have hcn := lexec_cnt _ _ _ _ _ _ _ _ _ hg0 hcl
                  have e1 : lco P mi w2' = lco P mi w := by simp only [lco, hcn]
                  have e2 : lzo P Q mi w2' = lzo P Q mi w := by simp only [lzo, hcn]
                  refine Don.step (fun t q => stp t ?_) (ihk p l e s₀ m args below meth cd U (locs ++ Lc) _ ls (v'.toList ++ st.drop me'.na) _ v w' L hx hZ hown hret hml hlk hs0 hdec hr' (by rw [e1, e2]; exact X') (by rw [hcn]; exact hc1) (by rw [hcn]; exact hc2) hI' (hFr.app hF') hL hlen)
                  rw [List.map_append, hva] at q; exact q
              · rw [if_neg hla] at hr; cases hr
            · cases hr
      -- the rest
      · split at hr
        · split at hr
          · rename_i u hu
            cases hr
            refine st_ret X hx hret hlk hu hd hn ⟨⟨rfl, cret_va hu⟩, hFr, I⟩ ?_ ?_
            · simp only [lco, lRoom] at *; split
              · simpa using hc1
              · exact Nat.le_refl _
            · simp only [lzo, lRoom] at *; split
              · simpa using hc2
              · exact Nat.le_refl _
          · cases hr
        · split at hr
          · rename_i pc' ls' st' hp
            obtain ⟨L', hL', hLs, st⟩ := pstep_sound X hx hp hd hn hL
            have hlen' : ls'.length = me.ml := by rw [← hL'.1, hLs, hL.1]; exact hlen
            exact Don.step st (ihk p l e s₀ m args below meth cd T locs _ ls' st' w v w' L' hx hZ hown hret hml hlk hs0 hdec hr X hc1 hc2 I hFr hL' hlen')
          · cases hr
/-- the law as a whole: what the machine returns, the program returns -/
theorem law_met {P : Cl} {Q : Lw} {sc : Sc} {Z : State} {a0 : Array Value} (LK : LinkC P Z a0) (LL : LinkL P Q Z a0) {a f : Nat} {me : Me} (hme : asc Q.ms 0 = some me) (l : Launch) {bytes : ByteArray} {ws : List Cond}
    (hdec : ∀ pc i n, fetch me.cd pc = some (i, n) → decode bytes pc = .ok (i, n) ∧ (isSw i = true ∨ n = ilen i))
    {as : List Value} (hnd : nd as = true) (hlen : (layA as).length ≤ me.ml) {v : Option Value} {w' : Wd} {h : Heap} (hr : lexec P Q sc f 0 me 0 (lay as me.ml) [] (fun _ => s0, 0, false) = some (v, w')) (hS : SRep Z h a h.size sc) :
    MetFree l (zOf Q me) (head1 (Cond.code (zOf Q me) bytes me.ml (retOf me.rt) :: ws) (lRoom Q 0 me)) (fun b U => b = (as.map (va (rho a h.size (P.al.length + 1)))).toArray ∧ Z.Warmed39 U.vm ∧ U.heap = h) (fun _ _ _ _ _ => True)
      (fun _ U o U' => ∃ u L, o = .returned u ∧ (u = v ∧ Fr h.size L) ∧ FrameEnd U o U' L Q.rc Q.rs) := by
  refine MetFree.of_bodySF (plainFor_of_name LL.2.2.2.2.2.2.1) hisR ?_
  intro p e s₀ m args below meth cd s₁ Bd hml hP hK
  obtain ⟨rfl, hZ, hh⟩ := hP
  have e0 : s₁.heap = h := by rw [← hh, Bd.state]; rfl
  have X0 : Stand p l e (lRoom Q 0 me) s₀ m _ below meth cd s₁ [] 0 0 := Stand.of_body Bd
  have hown : s₀.vm.findClass Q.nm = some m.cls := findClass_of_methodNamed Bd.named
  have hk0 : lco P 0 (fun _ => s0, 0, false) = 0 := by simp [lco]
  have hz0 : lzo P Q 0 (fun _ => s0, 0, false) = 0 := by simp [lzo]
  have D := lwalk LK LL (sc := sc) (a := a) (n0 := h.size) f 0 me hme p l e s₀ m _ below meth cd s₁ [] 0 (lay as me.ml) [] (fun _ => s0, 0, false) v w' _ Bd.exec hZ hown Bd.returns hml Bd.notSynchronized (fun _ => by rw [hh])
    (fun pc i n q => by rw [Bd.bytes]; exact hdec pc i n q) hr (by rw [hk0, hz0]; exact X0) (by simp) (by simp) (by
      rw [e0]; exact ⟨hS, fun o ho => absurd ho (Nat.not_lt_zero _), fun q => by simp at q, by simp⟩) (Fr.nil _) (lay_LR (nd_spec hnd) hlen) (lay_len hlen)
  obtain ⟨s₂, o, a1, a2, a3, u, L, a4, a5, a6⟩ := D
  refine ⟨s₂, o, a1, a2, a3, u, L, a4, ⟨a5.1.1, a5.2.1⟩, ?_⟩
  simpa [lRoom] using a6
end Jvm.LM

namespace Jvm.LM
open Sem ClassFile Op Lib Jvm.Stand Jvm.Free Jvm.LawKit Jvm.RoadKit
/-! what a run of the machine comes to -/
theorem cstep_mono {α : Type} {P : Cl} {mi : Nat} {me : Me} {rt : Option Value → St → Option α} {cl cl' : Nat → Nat → List Value → St → Rs} {k k' : Nat → Nat → Lv → List Value → St → Option α} {i : Instr} {c pc : Nat} {ls : Lv} {st : List Value} {s : St} {r : α}
    (hcl : ∀ m c as s r, cl m c as s = some r → cl' m c as s = some r) (hk : ∀ c pc ls st s r, k c pc ls st s = some r → k' c pc ls st s = some r) (h : cstep P mi me rt cl k i c pc ls st s = some r) : cstep P mi me rt cl' k' i c pc ls st s = some r := by
  unfold cstep at h ⊢
  split at h
  all_goals (try dsimp only)
  · split at h
    · split at h
      · exact hk _ _ _ _ _ _ h
      · cases h
    · cases h
  · split at h
    · split at h
      · exact hk _ _ _ _ _ _ h
      · cases h
    · cases h
  · split at h
    · exact hk _ _ _ _ _ _ h
    · cases h
  · split at h
    · exact hk _ _ _ _ _ _ h
    · cases h
  · split at h
    · exact hk _ _ _ _ _ _ h
    · cases h
  · split at h
    · exact hk _ _ _ _ _ _ h
    · cases h
  · split at h
    · exact hk _ _ _ _ _ _ h
    · cases h
  · split at h
    · exact hk _ _ _ _ _ _ h
    · cases h
  · split at h
    · rename_i q; rw [if_pos q]; exact hk _ _ _ _ _ _ h
    · cases h
  · split at h
    · exact hk _ _ _ _ _ _ h
    · cases h
  · split at h
    · exact hk _ _ _ _ _ _ h
    · cases h
  · split at h
    · split at h
      · rename_i q; rw [if_pos q]; exact hk _ _ _ _ _ _ h
      · cases h
    · cases h
  · split at h
    · cases h
    · rename_i m' hm'
      split at h
      · cases h
      · rename_i me' hme'
        split at h
        · rename_i r0 hst
          split at h
          · rename_i q
            rw [if_pos q]
            split at h
            · rename_i s1 hc; rw [hcl _ _ _ _ _ hc]; exact hk _ _ _ _ _ _ h
            · rename_i v1 s1 hc; rw [hcl _ _ _ _ _ hc]; exact hk _ _ _ _ _ _ h
            · cases h
          · cases h
        · cases h
  · split at h
    · rename_i q; rw [if_pos q]; exact h
    · rename_i q; rw [if_neg q]
      split at h
      · exact hk _ _ _ _ _ _ h
      · cases h
theorem cexec_succ {P : Cl} : ∀ f mi me c pc ls st s r, cexec P f mi me c pc ls st s = some r → cexec P (f + 1) mi me c pc ls st s = some r := by
  intro f
  induction f with
  | zero => intro mi me c pc ls st s r h; cases h
  | succ f ih =>
    intro mi me c pc ls st s r h
    rw [cexec] at h ⊢
    split at h
    · cases h
    · refine cstep_mono (fun m c as s r h => ?_) (fun c pc ls st s r h => ih _ _ _ _ _ _ _ _ h) h
      split at h
      · split at h
        · rename_i q; rw [if_pos q]; exact ih _ _ _ _ _ _ _ _ h
        · cases h
      · cases h
theorem cexec_le {P : Cl} {f g mi : Nat} {me : Me} {c pc : Nat} {ls : Lv} {st : List Value} {s : St} {r : Option Value × St} (hfg : f ≤ g) (h : cexec P f mi me c pc ls st s = some r) : cexec P g mi me c pc ls st s = some r := by
  obtain ⟨d, rfl⟩ := Nat.le.dest hfg
  induction d with
  | zero => exact h
  | succ d ih => exact cexec_succ _ _ _ _ _ _ _ _ _ (ih (Nat.le_add_right _ _))
theorem ccall_le {P : Cl} {f g m' c : Nat} {as : List Value} {s : St} {r : Option Value × St} (hfg : f ≤ g) (h : ccall P f m' c as s = some r) : ccall P g m' c as s = some r := by
  unfold ccall at h ⊢
  split at h
  · split at h
    · rename_i q; rw [if_pos q]; exact cexec_le hfg h
    · cases h
  · cases h
def wpc (P : Cl) (mi : Nat) (me : Me) (c pc : Nat) (ls : Lv) (st : List Value) (s : St) (Q : Option Value → St → Prop) : Prop := ∃ f v s', cexec P f mi me c pc ls st s = some (v, s') ∧ Q v s'
def cal (P : Cl) (m' c : Nat) (as : List Value) (s : St) (Q : Option Value → St → Prop) : Prop := ∃ f v s', ccall P f m' c as s = some (v, s') ∧ Q v s'
def calI (P : Cl) (m' c : Nat) (as : List Value) (s : St) (Q : Int32 → St → Prop) : Prop := cal P m' c as s fun r s' => ∃ v, r = some (.int v) ∧ Q v s'
def calL (P : Cl) (m' c : Nat) (as : List Value) (s : St) (Q : Int64 → St → Prop) : Prop := cal P m' c as s fun r s' => ∃ v, r = some (.long v) ∧ Q v s'
def calV (P : Cl) (m' c : Nat) (as : List Value) (s : St) (Q : St → Prop) : Prop := cal P m' c as s fun r s' => r = none ∧ Q s'
theorem cstep_nat {α : Type} {P : Cl} {mi : Nat} {me : Me} {k : Nat → Nat → Lv → List Value → St → Option α} {i : Instr} {c pc : Nat} {ls : Lv} {st : List Value} {s : St} {x : α}
    (h : cstep P mi me (fun _ _ => none) (fun _ _ _ _ => none) k i c pc ls st s = some x) : ∃ c' pc' ls' st' s', k c' pc' ls' st' s' = some x ∧ ∀ (β : Type) (rt : Option Value → St → Option β) cl (k' : Nat → Nat → Lv → List Value → St → Option β), cstep P mi me rt cl k' i c pc ls st s = k' c' pc' ls' st' s' := by
  unfold cstep at h
  split at h
  · split at h
    · split at h
      · rename_i q; exact ⟨_, _, _, _, _, h, fun β rt cl k' => by simp only [cstep, q]⟩
      · cases h
    · cases h
  · split at h
    · split at h
      · rename_i q; exact ⟨_, _, _, _, _, h, fun β rt cl k' => by simp only [cstep, q]⟩
      · cases h
    · cases h
  · split at h
    · rename_i q; exact ⟨_, _, _, _, _, h, fun β rt cl k' => by simp only [cstep, q]⟩
    · cases h
  · split at h
    · rename_i q; exact ⟨_, _, _, _, _, h, fun β rt cl k' => by simp only [cstep, q]⟩
    · cases h
  · split at h
    · rename_i q; exact ⟨_, _, _, _, _, h, fun β rt cl k' => by simp only [cstep, q]⟩
    · cases h
  · split at h
    · rename_i q; exact ⟨_, _, _, _, _, h, fun β rt cl k' => by simp only [cstep, q]⟩
    · cases h
  · split at h
    · rename_i q; exact ⟨_, _, _, _, _, h, fun β rt cl k' => by simp only [cstep, q]⟩
    · cases h
  · split at h
    · rename_i q; exact ⟨_, _, _, _, _, h, fun β rt cl k' => by simp only [cstep, q]⟩
    · cases h
  · split at h
    · rename_i q; exact ⟨_, _, _, _, _, h, fun β rt cl k' => by simp only [cstep]; rw [if_pos q]⟩
    · cases h
  · split at h
    · rename_i q; exact ⟨_, _, _, _, _, h, fun β rt cl k' => by simp only [cstep, q]⟩
    · cases h
  · split at h
    · rename_i q; exact ⟨_, _, _, _, _, h, fun β rt cl k' => by simp only [cstep, q]⟩
    · cases h
  · split at h
    · split at h
      · rename_i q; exact ⟨_, _, _, _, _, h, fun β rt cl k' => by simp only [cstep]; rw [if_pos q]⟩
      · cases h
    · cases h
  · split at h
    · cases h
    · split at h
      · cases h
      · split at h
        · split at h
          · cases h
          · cases h
        · cases h
  · rename_i n1 n2 n3 n4 n5 n6 n7 n8 n9 n10 n11 n12 n13
    split at h
    · split at h
      · cases h
      · split at h <;> cases h
    · rename_i hr
      split at h
      · rename_i pc' ls' st' hp
        refine ⟨_, _, _, _, _, h, fun β rt cl k' => ?_⟩
        unfold cstep
        split <;> first | (exfalso; first | exact n1 _ rfl | exact n2 _ rfl | exact n3 rfl | exact n4 rfl | exact n5 rfl | exact n6 rfl | exact n7 rfl | exact n8 rfl | exact n9 _ rfl | exact n10 _ rfl | exact n11 _ rfl | exact n12 _ rfl | exact n13 _ rfl) | skip
        rw [if_neg hr, hp]
      · cases h
def csl (P : Cl) (mi : Nat) (me : Me) : Nat → Nat → Nat → Lv → List Value → St → Option (Nat × Nat × Lv × List Value × St)
  | 0, c, pc, ls, st, s => some (c, pc, ls, st, s)
  | n + 1, c, pc, ls, st, s => match fetch me.cd pc with
    | none => none
    | some (i, _) => cstep P mi me (fun _ _ => none) (fun _ _ _ _ => none) (csl P mi me n) i c pc ls st s
theorem wpc_one {P : Cl} {mi : Nat} {me : Me} {c pc c' pc' : Nat} {ls ls' : Lv} {st st' : List Value} {s s' : St} {Q : Option Value → St → Prop} {i : Instr} {n : Nat} (hf : fetch me.cd pc = some (i, n))
    (h : ∀ (rt : Option Value → St → Rs) cl (k : Nat → Nat → Lv → List Value → St → Rs), cstep P mi me rt cl k i c pc ls st s = k c' pc' ls' st' s') (hq : wpc P mi me c' pc' ls' st' s' Q) : wpc P mi me c pc ls st s Q := by
  obtain ⟨f, v, s2, h1, h2⟩ := hq
  refine ⟨f + 1, v, s2, ?_, h2⟩
  rw [cexec, hf]; dsimp only; rw [h]; exact h1
theorem wpc_sl {P : Cl} {mi : Nat} {me : Me} {Q : Option Value → St → Prop} : ∀ {n c pc c' pc' : Nat} {ls ls' : Lv} {st st' : List Value} {s s' : St}, csl P mi me n c pc ls st s = some (c', pc', ls', st', s') → wpc P mi me c' pc' ls' st' s' Q → wpc P mi me c pc ls st s Q := by
  intro n
  induction n with
  | zero => intro c pc c' pc' ls ls' st st' s s' h hq; cases h; exact hq
  | succ n ih =>
    intro c pc c' pc' ls ls' st st' s s' h hq
    simp only [csl] at h
    split at h
    · cases h
    · rename_i i m hf
      obtain ⟨c1, pc1, ls1, st1, s1, h1, h2⟩ := cstep_nat h
      exact wpc_one hf (fun rt cl k => h2 _ rt cl k) (ih h1 hq)
theorem wpc_ret {P : Cl} {mi : Nat} {me : Me} {c pc : Nat} {ls : Lv} {st : List Value} {s : St} {Q : Option Value → St → Prop} {i : Instr} {n : Nat} {v : Option Value} (hf : fetch me.cd pc = some (i, n)) (hr : isRet i = true) (hc : mi = 0 → c = P.al.length) (h : cret me st i = some v) (hq : Q v s) : wpc P mi me c pc ls st s Q := by
  refine ⟨1, v, s, ?_, hq⟩
  rw [cexec, hf]; dsimp only
  have hc' : ¬ (mi = 0 ∧ c ≠ P.al.length) := fun q => q.2 (hc q.1)
  cases i <;> first | (cases hr; done) | (simp only [cstep]; rw [if_pos hr, if_neg hc', h])
theorem wpc_if {P : Cl} {mi : Nat} {me : Me} {c pc a b : Nat} {ls : Lv} {r : List Value} {s : St} {Q : Option Value → St → Prop} {cd : ClassFile.Cond} {o : Int} {n : Nat} {x : Int32} (hf : fetch me.cd pc = some (.ifCond cd o, n)) (ho : 0 ≤ (pc : Int) + o) (ha : jmp pc o = a) (hb : pc + 3 = b)
    (hq : wpc P mi me c (br cd x 0 a b) ls r s Q) : wpc P mi me c pc ls (.int x :: r) s Q := by
  subst ha hb
  refine wpc_one hf (fun rt cl k => ?_) hq
  show (match pstep (.ifCond cd o) pc ls (.int x :: r) with | some (pc', ls', st') => k c pc' ls' st' s | none => none) = _
  simp only [pstep, qstep]; rw [if_pos ho]
theorem wpc_icmp {P : Cl} {mi : Nat} {me : Me} {c pc a b : Nat} {ls : Lv} {r : List Value} {s : St} {Q : Option Value → St → Prop} {cd : ClassFile.Cond} {o : Int} {n : Nat} {x y : Int32} (hf : fetch me.cd pc = some (.if_icmp cd o, n)) (ho : 0 ≤ (pc : Int) + o) (ha : jmp pc o = a) (hb : pc + 3 = b)
    (hq : wpc P mi me c (br cd x y a b) ls r s Q) : wpc P mi me c pc ls (.int y :: .int x :: r) s Q := by
  subst ha hb
  refine wpc_one hf (fun rt cl k => ?_) hq
  show (match pstep (.if_icmp cd o) pc ls (.int y :: .int x :: r) with | some (pc', ls', st') => k c pc' ls' st' s | none => none) = _
  simp only [pstep, qstep]; rw [if_pos ho]
/-- the two roads of a branch -/
theorem wpc_br {P : Cl} {mi : Nat} {me : Me} {c a b : Nat} {ls : Lv} {st : List Value} {s : St} {Q : Option Value → St → Prop} {p : Prop} [Decidable p] (h : (p → wpc P mi me c a ls st s Q) ∧ (¬ p → wpc P mi me c b ls st s Q)) : wpc P mi me c (if p then a else b) ls st s Q := by
  by_cases hp : p
  · rw [if_pos hp]; exact h.1 hp
  · rw [if_neg hp]; exact h.2 hp
theorem wpc_lda {P : Cl} {mi : Nat} {me : Me} {c pc a tt N : Nat} {ls : Lv} {r : List Value} {s : St} {Q : Option Value → St → Prop} {i : Instr} {n : Nat} {j : Int32} (hf : fetch me.cd pc = some (i, n)) (hi : (tt = 0 ∧ i = .iaload) ∨ (tt = 1 ∧ i = .baload) ∨ (tt = 2 ∧ i = .laload)) (ha : P.al[a]? = some (tt, N)) (hac : a < c)
    (hj : inb N j) (hq : wpc P mi me c (pc + 1) ls (elv tt s (a + 1) (ix j) :: r) s Q) : wpc P mi me c pc ls (.int j :: .ref (a + 1) :: r) s Q := by
  have hl : lda P tt c (.int j :: .ref (a + 1) :: r) s = some (elv tt s (a + 1) (ix j) :: r) := by
    simp only [lda, ha]; rw [if_pos ⟨trivial, hac⟩, if_pos hj]; rfl
  refine wpc_one hf (fun rt cl k => ?_) hq
  rcases hi with ⟨rfl, rfl⟩ | ⟨rfl, rfl⟩ | ⟨rfl, rfl⟩ <;> simp only [cstep, hl]
theorem wpc_sta {P : Cl} {mi : Nat} {me : Me} {c pc a tt N : Nat} {ls : Lv} {r : List Value} {s s' : St} {Q : Option Value → St → Prop} {i : Instr} {n : Nat} {j : Int32} {v : Value} (hf : fetch me.cd pc = some (i, n)) (hi : (tt = 0 ∧ i = .iastore ∧ ∃ z, v = .int z ∧ s' = sI s (a + 1) (ix j) z) ∨ (tt = 1 ∧ i = .bastore ∧ ∃ z, v = .int z ∧ s' = sI s (a + 1) (ix j) (z &&& 1)) ∨ (tt = 2 ∧ i = .lastore ∧ ∃ z, v = .long z ∧ s' = sL s (a + 1) (ix j) z)) (ha : P.al[a]? = some (tt, N)) (hac : a < c)
    (hj : inb N j) (hq : wpc P mi me c (pc + 1) ls r s' Q) : wpc P mi me c pc ls (v :: .int j :: .ref (a + 1) :: r) s Q := by
  have hl : sta P tt c (v :: .int j :: .ref (a + 1) :: r) s = some (r, s') := by
    simp only [sta, ha]; rw [if_pos ⟨trivial, hac⟩, if_pos hj]
    rcases hi with ⟨rfl, -, z, rfl, rfl⟩ | ⟨rfl, -, z, rfl, rfl⟩ | ⟨rfl, -, z, rfl, rfl⟩ <;> rfl
  refine wpc_one hf (fun rt cl k => ?_) hq
  rcases hi with ⟨rfl, rfl, -⟩ | ⟨rfl, rfl, -⟩ | ⟨rfl, rfl, -⟩ <;> simp only [cstep, hl]
theorem wpc_call {P : Cl} {mi : Nat} {me me' : Me} {c pc x m' : Nat} {ls : Lv} {st r as : List Value} {s : St} {Q : Option Value → St → Prop} {n : Nat} (hf : fetch me.cd pc = some (.invokevirtual x, n)) (hm : asc P.mx x = some m') (hme : asc P.ms m' = some me') (hst : st.drop me'.na = .ref 0 :: r) (has : (st.take me'.na).reverse = as)
    (hg : m' ≠ 0 ∧ me'.rf + 1 ≤ me.rf ∧ cats r + (me'.ml + 11) + me'.rl ≤ me.rl ∧ nd (st.take me'.na) = true)
    (hq : cal P m' c (.ref 0 :: as) s fun v s' => wpc P mi me c (pc + 3) ls (v.toList ++ r) s' Q) : wpc P mi me c pc ls st s Q := by
  subst has
  obtain ⟨f1, v, s1, h1, f2, v2, s2, h2, h3⟩ := hq
  refine ⟨max f1 f2 + 1, v2, s2, ?_, h3⟩
  have h1' := ccall_le (Nat.le_max_left f1 f2) h1
  have h2' := cexec_le (Nat.le_max_right f1 f2) h2
  rw [cexec, hf]; dsimp only
  simp only [cstep, hm, hme, hst]
  rw [if_pos hg]
  simp only [ccall, hme] at h1'
  rw [h1']
  cases v <;> exact h2'
theorem cal_of {P : Cl} {m' c : Nat} {as : List Value} {s : St} {Q : Option Value → St → Prop} {me : Me} {ls : Lv} (hme : asc P.ms m' = some me) (hl : (layA as).length ≤ me.ml) (hls : lay as me.ml = ls) (h : wpc P m' me c 0 ls [] s Q) : cal P m' c as s Q := by
  subst hls
  obtain ⟨f, v, s', h1, h2⟩ := h
  refine ⟨f, v, s', ?_, h2⟩
  simp only [ccall, hme]; rw [if_pos hl]; exact h1
theorem cal.mono {P : Cl} {m' c : Nat} {as : List Value} {s : St} {Q Q' : Option Value → St → Prop} (h : cal P m' c as s Q) (hq : ∀ v s', Q v s' → Q' v s') : cal P m' c as s Q' := by
  obtain ⟨f, v, s', h1, h2⟩ := h; exact ⟨f, v, s', h1, hq _ _ h2⟩
theorem calI.mono {P : Cl} {m' c : Nat} {as : List Value} {s : St} {Q Q' : Int32 → St → Prop} (h : calI P m' c as s Q) (hq : ∀ v s', Q v s' → Q' v s') : calI P m' c as s Q' := cal.mono h fun _ _ ⟨v, e, q⟩ => ⟨v, e, hq _ _ q⟩
theorem calL.mono {P : Cl} {m' c : Nat} {as : List Value} {s : St} {Q Q' : Int64 → St → Prop} (h : calL P m' c as s Q) (hq : ∀ v s', Q v s' → Q' v s') : calL P m' c as s Q' := cal.mono h fun _ _ ⟨v, e, q⟩ => ⟨v, e, hq _ _ q⟩
theorem calV.mono {P : Cl} {m' c : Nat} {as : List Value} {s : St} {Q Q' : St → Prop} (h : calV P m' c as s Q) (hq : ∀ s', Q s' → Q' s') : calV P m' c as s Q' := cal.mono h fun _ _ ⟨e, q⟩ => ⟨e, hq _ q⟩
theorem wpc.mono {P : Cl} {mi : Nat} {me : Me} {c pc : Nat} {ls : Lv} {st : List Value} {s : St} {Q Q' : Option Value → St → Prop} (h : wpc P mi me c pc ls st s Q) (hq : ∀ v s', Q v s' → Q' v s') : wpc P mi me c pc ls st s Q' := by
  obtain ⟨f, v, s', h1, h2⟩ := h; exact ⟨f, v, s', h1, hq _ _ h2⟩
theorem wpc_callI {P : Cl} {mi : Nat} {me me' : Me} {c pc x m' : Nat} {ls : Lv} {st r as : List Value} {s : St} {Q : Option Value → St → Prop} {n : Nat} (hf : fetch me.cd pc = some (.invokevirtual x, n)) (hm : asc P.mx x = some m') (hme : asc P.ms m' = some me') (hst : st.drop me'.na = .ref 0 :: r) (has : (st.take me'.na).reverse = as)
    (hg : m' ≠ 0 ∧ me'.rf + 1 ≤ me.rf ∧ cats r + (me'.ml + 11) + me'.rl ≤ me.rl ∧ nd (st.take me'.na) = true)
    (hq : calI P m' c (.ref 0 :: as) s fun v s' => wpc P mi me c (pc + 3) ls (.int v :: r) s' Q) : wpc P mi me c pc ls st s Q :=
  wpc_call hf hm hme hst has hg (cal.mono hq fun _ _ ⟨v, e, q⟩ => by subst e; exact q)
theorem wpc_callL {P : Cl} {mi : Nat} {me me' : Me} {c pc x m' : Nat} {ls : Lv} {st r as : List Value} {s : St} {Q : Option Value → St → Prop} {n : Nat} (hf : fetch me.cd pc = some (.invokevirtual x, n)) (hm : asc P.mx x = some m') (hme : asc P.ms m' = some me') (hst : st.drop me'.na = .ref 0 :: r) (has : (st.take me'.na).reverse = as)
    (hg : m' ≠ 0 ∧ me'.rf + 1 ≤ me.rf ∧ cats r + (me'.ml + 11) + me'.rl ≤ me.rl ∧ nd (st.take me'.na) = true)
    (hq : calL P m' c (.ref 0 :: as) s fun v s' => wpc P mi me c (pc + 3) ls (.long v :: r) s' Q) : wpc P mi me c pc ls st s Q :=
  wpc_call hf hm hme hst has hg (cal.mono hq fun _ _ ⟨v, e, q⟩ => by subst e; exact q)
theorem wpc_callV {P : Cl} {mi : Nat} {me me' : Me} {c pc x m' : Nat} {ls : Lv} {st r as : List Value} {s : St} {Q : Option Value → St → Prop} {n : Nat} (hf : fetch me.cd pc = some (.invokevirtual x, n)) (hm : asc P.mx x = some m') (hme : asc P.ms m' = some me') (hst : st.drop me'.na = .ref 0 :: r) (has : (st.take me'.na).reverse = as)
    (hg : m' ≠ 0 ∧ me'.rf + 1 ≤ me.rf ∧ cats r + (me'.ml + 11) + me'.rl ≤ me.rl ∧ nd (st.take me'.na) = true)
    (hq : calV P m' c (.ref 0 :: as) s fun s' => wpc P mi me c (pc + 3) ls r s' Q) : wpc P mi me c pc ls st s Q :=
  wpc_call hf hm hme hst has hg (cal.mono hq fun _ _ ⟨e, q⟩ => by subst e; exact q)
/-- both roads of a value -/
theorem wp_val {p : Prop} [Decidable p] {α : Sort _} {F : α → Prop} {x y : α} (h : F (if p then x else y)) : (p → F x) ∧ (¬ p → F y) := ⟨fun q => by rw [if_pos q] at h; exact h, fun q => by rw [if_neg q] at h; exact h⟩
end Jvm.LM

namespace Jvm.LM
open Sem ClassFile Op Lib Jvm.Stand Jvm.Free Jvm.LawKit Jvm.RoadKit
/-! variables that are not read any more -/
def lle (a b : Lv) : Prop := a.length = b.length ∧ ∀ (k : Nat) (v : Value), a[k]? = some (some v) → b[k]? = some (some v)
def lle' : Lv → Lv → Prop
  | [], [] => True
  | none :: a, _ :: b => lle' a b
  | some v :: a, w :: b => w = some v ∧ lle' a b
  | _, _ => False
theorem lle_of {a b : Lv} (h : lle' a b) : lle a b := by
  induction a generalizing b with
  | nil => cases b with
    | nil => exact ⟨rfl, fun k v hk => hk⟩
    | cons y b => cases h
  | cons x a ih =>
    cases b with
    | nil => cases x <;> cases h
    | cons y b =>
      cases x with
      | none =>
        obtain ⟨h1, h2⟩ := ih (b := b) h
        refine ⟨by simp [h1], fun k v hk => ?_⟩
        cases k with
        | zero => simp at hk
        | succ k => simp at hk ⊢; exact h2 k v hk
      | some x =>
        obtain ⟨e, h⟩ := h
        obtain ⟨h1, h2⟩ := ih (b := b) h
        subst e
        refine ⟨by simp [h1], fun k v hk => ?_⟩
        cases k with
        | zero => exact hk
        | succ k => simp at hk ⊢; exact h2 k v hk
theorem clr_lle {a b : Lv} (h : lle a b) (i : Nat) : (clr a i).length = (clr b i).length ∧ ∀ k v, k ≠ i → (clr a i)[k]? = some (some v) → (clr b i)[k]? = some (some v) := by
  refine ⟨by rw [clr_len, clr_len]; exact h.1, fun k v hk hv => ?_⟩
  obtain ⟨q1, q2⟩ := clr_get hv
  have q3 := h.2 _ _ q1
  cases i with
  | zero => exact q3
  | succ j =>
    simp only [clr]
    split
    · rename_i x e
      rw [List.getElem?_set]
      split
      · rename_i e2; subst e2
        rw [q3] at e; cases e
        exact absurd rfl (q2 rfl)
      · exact q3
    · rename_i x e
      rw [List.getElem?_set]
      split
      · rename_i e2; subst e2
        rw [q3] at e; cases e
        exact absurd rfl (q2 rfl)
      · exact q3
    · exact q3
theorem stl_lle {a b a' : Lv} (h : lle a b) {i : Nat} {v : Value} (hs : stl a i v = some a') : ∃ b', stl b i v = some b' ∧ lle a' b' := by
  obtain ⟨c1, c2⟩ := clr_lle h i
  have hl := h.1
  have one : ∀ w : Value, ∀ k u, ((clr a i).set i (some w))[k]? = some (some u) → ((clr b i).set i (some w))[k]? = some (some u) := fun w k u hk => by
    rw [List.getElem?_set] at hk ⊢
    split
    · rename_i e; rw [if_pos e] at hk; rw [← c1]; exact hk
    · rename_i e; rw [if_neg e] at hk; exact c2 k u (fun q => e q.symm) hk
  unfold stl at hs ⊢
  split at hs
  · rename_i x
    split at hs
    · rename_i q
      cases hs
      refine ⟨((clr b i).set i (some (.long x))).set (i + 1) none, if_pos (by rw [← hl]; exact q), by simp [c1], fun k u hk => ?_⟩
      rw [List.getElem?_set] at hk ⊢
      split
      · rename_i e; rw [if_pos e] at hk; split at hk <;> simp at hk
      · rename_i e; rw [if_neg e] at hk; exact one _ k u hk
    · cases hs
  · split at hs
    · rename_i q
      cases hs
      exact ⟨(clr b i).set i (some v), if_pos (by rw [← hl]; exact q), by simp [c1], fun k u hk => one _ k u hk⟩
    · cases hs
theorem pstep_lle {i : Instr} {pc pc' : Nat} {ls l1 ls' : Lv} {st st' : List Value} (h : pstep i pc ls st = some (pc', l1, st')) (hl : lle ls ls') : ∃ l1', pstep i pc ls' st = some (pc', l1', st') ∧ lle l1 l1' := by
  unfold pstep at h ⊢
  split at h
  all_goals (try dsimp only)
  iterate 6
    · split at h
      · rename_i e; cases h; rw [hl.2 _ _ e]; exact ⟨_, rfl, hl⟩
      · cases h
  iterate 6
    · split at h
      · split at h
        · rename_i e; cases h
          obtain ⟨b', q1, q2⟩ := stl_lle hl e
          rw [q1]; exact ⟨_, rfl, q2⟩
        · cases h
      · cases h
  · split at h
    · rename_i e0
      split at h
      · rename_i e; cases h
        obtain ⟨b', q1, q2⟩ := stl_lle hl e
        rw [hl.2 _ _ e0]; dsimp only; rw [q1]; exact ⟨_, rfl, q2⟩
      · cases h
    · cases h
  · split at h
    · cases h; exact ⟨_, rfl, hl⟩
    · cases h
theorem cstep_lle {P : Cl} {mi : Nat} {me : Me} {rt : Option Value → St → Rs} {cl : Nat → Nat → List Value → St → Rs} {k : Nat → Nat → Lv → List Value → St → Rs} {i : Instr} {c pc : Nat} {ls ls' : Lv} {st : List Value} {s : St} {r : Option Value × St} (hl : lle ls ls')
    (hk : ∀ c pc ls ls' st s, lle ls ls' → k c pc ls st s = some r → k c pc ls' st s = some r) (h : cstep P mi me rt cl k i c pc ls st s = some r) : cstep P mi me rt cl k i c pc ls' st s = some r := by
  unfold cstep at h ⊢
  split at h
  all_goals (try dsimp only)
  · split at h
    · split at h
      · exact hk _ _ _ _ _ _ hl h
      · cases h
    · cases h
  · split at h
    · split at h
      · exact hk _ _ _ _ _ _ hl h
      · cases h
    · cases h
  iterate 6
    · split at h
      · exact hk _ _ _ _ _ _ hl h
      · cases h
  · split at h
    · rename_i q; rw [if_pos q]; exact hk _ _ _ _ _ _ hl h
    · cases h
  iterate 2
    · split at h
      · exact hk _ _ _ _ _ _ hl h
      · cases h
  · split at h
    · split at h
      · rename_i q; rw [if_pos q]; exact hk _ _ _ _ _ _ hl h
      · cases h
    · cases h
  · split at h
    · cases h
    · split at h
      · cases h
      · split at h
        · split at h
          · rename_i q
            rw [if_pos q]
            split at h
            · exact hk _ _ _ _ _ _ hl h
            · exact hk _ _ _ _ _ _ hl h
            · cases h
          · cases h
        · cases h
  · split at h
    · rename_i q; rw [if_pos q]; exact h
    · rename_i q; rw [if_neg q]
      split at h
      · rename_i e
        obtain ⟨l1', q1, q2⟩ := pstep_lle e hl
        rw [q1]; exact hk _ _ _ _ _ _ q2 h
      · cases h
theorem cexec_lle {P : Cl} : ∀ f mi me c pc ls ls' st s r, lle ls ls' → cexec P f mi me c pc ls st s = some r → cexec P f mi me c pc ls' st s = some r := by
  intro f
  induction f with
  | zero => intro mi me c pc ls ls' st s r _ h; cases h
  | succ f ih =>
    intro mi me c pc ls ls' st s r hl h
    rw [cexec] at h ⊢
    split at h
    · cases h
    · exact cstep_lle hl (fun c pc ls ls' st s hl h => ih _ _ _ _ _ _ _ _ _ hl h) h
theorem wpc_lle {P : Cl} {mi : Nat} {me : Me} {c pc : Nat} {ls ls' : Lv} {st : List Value} {s : St} {Q : Option Value → St → Prop} (hl : lle' ls ls') (h : wpc P mi me c pc ls st s Q) : wpc P mi me c pc ls' st s Q := by
  obtain ⟨f, v, s', h1, h2⟩ := h; exact ⟨f, v, s', cexec_lle _ _ _ _ _ _ _ _ _ _ (lle_of hl) h1, h2⟩
end Jvm.LM

namespace Jvm.LM
open Sem ClassFile Op Lib Jvm.Stand Jvm.Free Jvm.LawKit Jvm.RoadKit
theorem lstep_mono {α : Type} {P : Cl} {Q : Lw} {sc : Sc} {mi : Nat} {me : Me} {rt : Option Value → Wd → Option α} {cc cc' : Nat → Nat → List Value → St → Rs} {cl cl' : Nat → List Value → Wd → Rw} {k k' : Nat → Lv → List Value → Wd → Option α} {i : Instr} {pc : Nat} {ls : Lv} {st : List Value} {w : Wd} {r : α}
    (hcc : ∀ m c as s r, cc m c as s = some r → cc' m c as s = some r) (hcl : ∀ m as s r, cl m as s = some r → cl' m as s = some r) (hk : ∀ pc ls st s r, k pc ls st s = some r → k' pc ls st s = some r) (h : lstep P Q sc mi me rt cc cl k i pc ls st w = some r) : lstep P Q sc mi me rt cc' cl' k' i pc ls st w = some r := by
  unfold lstep at h ⊢
  split at h
  all_goals (try dsimp only)
  · split at h
    · split at h
      · rename_i q; rw [if_pos q]; exact hk _ _ _ _ _ h
      · cases h
    · cases h
  · split at h
    · exact hk _ _ _ _ _ h
    · cases h
  · split at h
    · exact hk _ _ _ _ _ h
    · cases h
  · split at h
    · exact hk _ _ _ _ _ h
    · cases h
  · split at h
    · rename_i q; rw [if_pos q]; exact hk _ _ _ _ _ h
    · cases h
  · split at h
    · cases h
    · split at h
      · split at h
        · rename_i q
          rw [if_pos q]
          split at h
          · rename_i s1 hc; rw [hcc _ _ _ _ _ hc]; exact hk _ _ _ _ _ h
          · cases h
        · cases h
      · cases h
  · split at h
    · cases h
    · split at h
      · cases h
      · split at h
        · split at h
          · rename_i q
            rw [if_pos q]
            split at h
            · rename_i s1 hc; rw [hcc _ _ _ _ _ hc]; exact hk _ _ _ _ _ h
            · rename_i v1 s1 hc; rw [hcc _ _ _ _ _ hc]; exact hk _ _ _ _ _ h
            · cases h
          · cases h
        · cases h
  · split at h
    · cases h
    · split at h
      · cases h
      · split at h
        · rename_i q
          rw [if_pos q]
          split at h
          · rename_i s1 hc; rw [hcl _ _ _ _ hc]; exact hk _ _ _ _ _ h
          · rename_i v1 s1 hc; rw [hcl _ _ _ _ hc]; exact hk _ _ _ _ _ h
          · cases h
        · cases h
  · split at h
    · rename_i q; rw [if_pos q]; exact h
    · rename_i q; rw [if_neg q]
      split at h
      · exact hk _ _ _ _ _ h
      · cases h
theorem lexec_succ {P : Cl} {Q : Lw} {sc : Sc} : ∀ f mi me pc ls st w r, lexec P Q sc f mi me pc ls st w = some r → lexec P Q sc (f + 1) mi me pc ls st w = some r := by
  intro f
  induction f with
  | zero => intro mi me pc ls st s r h; cases h
  | succ f ih =>
    intro mi me pc ls st s r h
    rw [lexec] at h ⊢
    split at h
    · cases h
    · refine lstep_mono (fun m c as s r h => ccall_le (Nat.le_succ _) h) (fun m as s r h => ?_) (fun pc ls st s r h => ih _ _ _ _ _ _ _ h) h
      split at h
      · split at h
        · rename_i q; rw [if_pos q]; exact ih _ _ _ _ _ _ _ h
        · cases h
      · cases h
theorem lexec_le {P : Cl} {Q : Lw} {sc : Sc} {f g mi : Nat} {me : Me} {pc : Nat} {ls : Lv} {st : List Value} {w : Wd} {r : Option Value × Wd} (hfg : f ≤ g) (h : lexec P Q sc f mi me pc ls st w = some r) : lexec P Q sc g mi me pc ls st w = some r := by
  obtain ⟨d, rfl⟩ := Nat.le.dest hfg
  induction d with
  | zero => exact h
  | succ d ih => exact lexec_succ _ _ _ _ _ _ _ _ (ih (Nat.le_add_right _ _))
theorem lcall_le {P : Cl} {Q : Lw} {sc : Sc} {f g m' : Nat} {as : List Value} {w : Wd} {r : Option Value × Wd} (hfg : f ≤ g) (h : lcall P Q sc f m' as w = some r) : lcall P Q sc g m' as w = some r := by
  unfold lcall at h ⊢
  split at h
  · split at h
    · rename_i q; rw [if_pos q]; exact lexec_le hfg h
    · cases h
  · cases h
def wpl (P : Cl) (Q : Lw) (sc : Sc) (mi : Nat) (me : Me) (pc : Nat) (ls : Lv) (st : List Value) (w : Wd) (R : Option Value → Wd → Prop) : Prop := ∃ f v w', lexec P Q sc f mi me pc ls st w = some (v, w') ∧ R v w'
def lal (P : Cl) (Q : Lw) (sc : Sc) (m' : Nat) (as : List Value) (w : Wd) (R : Option Value → Wd → Prop) : Prop := ∃ f v w', lcall P Q sc f m' as w = some (v, w') ∧ R v w'
def lalI (P : Cl) (Q : Lw) (sc : Sc) (m' : Nat) (as : List Value) (w : Wd) (R : Int32 → Wd → Prop) : Prop := lal P Q sc m' as w fun r w' => ∃ v, r = some (.int v) ∧ R v w'
def lalL (P : Cl) (Q : Lw) (sc : Sc) (m' : Nat) (as : List Value) (w : Wd) (R : Int64 → Wd → Prop) : Prop := lal P Q sc m' as w fun r w' => ∃ v, r = some (.long v) ∧ R v w'
def lalV (P : Cl) (Q : Lw) (sc : Sc) (m' : Nat) (as : List Value) (w : Wd) (R : Wd → Prop) : Prop := lal P Q sc m' as w fun r w' => r = none ∧ R w'
theorem lal.mono {P : Cl} {Q : Lw} {sc : Sc} {m' : Nat} {as : List Value} {w : Wd} {R R' : Option Value → Wd → Prop} (h : lal P Q sc m' as w R) (hq : ∀ v s', R v s' → R' v s') : lal P Q sc m' as w R' := by
  obtain ⟨f, v, s', h1, h2⟩ := h; exact ⟨f, v, s', h1, hq _ _ h2⟩
theorem lalI.mono {P : Cl} {Q : Lw} {sc : Sc} {m' : Nat} {as : List Value} {w : Wd} {R R' : Int32 → Wd → Prop} (h : lalI P Q sc m' as w R) (hq : ∀ v s', R v s' → R' v s') : lalI P Q sc m' as w R' := lal.mono h fun _ _ ⟨v, e, q⟩ => ⟨v, e, hq _ _ q⟩
theorem lalL.mono {P : Cl} {Q : Lw} {sc : Sc} {m' : Nat} {as : List Value} {w : Wd} {R R' : Int64 → Wd → Prop} (h : lalL P Q sc m' as w R) (hq : ∀ v s', R v s' → R' v s') : lalL P Q sc m' as w R' := lal.mono h fun _ _ ⟨v, e, q⟩ => ⟨v, e, hq _ _ q⟩
theorem lalV.mono {P : Cl} {Q : Lw} {sc : Sc} {m' : Nat} {as : List Value} {w : Wd} {R R' : Wd → Prop} (h : lalV P Q sc m' as w R) (hq : ∀ s', R s' → R' s') : lalV P Q sc m' as w R' := lal.mono h fun _ _ ⟨e, q⟩ => ⟨e, hq _ q⟩
theorem wpl.mono {P : Cl} {Q : Lw} {sc : Sc} {mi : Nat} {me : Me} {pc : Nat} {ls : Lv} {st : List Value} {w : Wd} {R R' : Option Value → Wd → Prop} (h : wpl P Q sc mi me pc ls st w R) (hq : ∀ v s', R v s' → R' v s') : wpl P Q sc mi me pc ls st w R' := by
  obtain ⟨f, v, s', h1, h2⟩ := h; exact ⟨f, v, s', h1, hq _ _ h2⟩
theorem wpl_one {P : Cl} {Q : Lw} {sc : Sc} {mi : Nat} {me : Me} {pc pc' : Nat} {ls ls' : Lv} {st st' : List Value} {w w' : Wd} {R : Option Value → Wd → Prop} {i : Instr} {n : Nat} (hf : fetch me.cd pc = some (i, n))
    (h : ∀ (rt : Option Value → Wd → Rw) cc cl (k : Nat → Lv → List Value → Wd → Rw), lstep P Q sc mi me rt cc cl k i pc ls st w = k pc' ls' st' w') (hq : wpl P Q sc mi me pc' ls' st' w' R) : wpl P Q sc mi me pc ls st w R := by
  obtain ⟨f, v, s2, h1, h2⟩ := hq
  refine ⟨f + 1, v, s2, ?_, h2⟩
  rw [lexec, hf]; dsimp only; rw [h]; exact h1
/-- plain steps: nothing of the heap, no call -/
def isPl : Instr → Bool
  | .iaload => false | .arraylength => false | .ldc _ => false | .ldc2_w _ => false | .new _ => false | .invokespecial _ => false | .invokevirtual _ => false | .invokestatic _ => false
  | .ireturn => false | .lreturn => false | .return_ => false
  | _ => true
theorem lstep_pl {α : Type} {P : Cl} {Q : Lw} {sc : Sc} {mi : Nat} {me : Me} {rt : Option Value → Wd → Option α} {cc : Nat → Nat → List Value → St → Rs} {cl : Nat → List Value → Wd → Rw} {k : Nat → Lv → List Value → Wd → Option α} {i : Instr} {pc : Nat} {ls : Lv} {st : List Value} {w : Wd} (hi : isPl i = true) :
    lstep P Q sc mi me rt cc cl k i pc ls st w = match pstep i pc ls st with | some (pc', ls', st') => k pc' ls' st' w | none => none := by
  cases i <;> first | (cases hi; done) | rfl
def psl (kx : List (Nat × Value)) (cd : Cd) : Nat → Nat → Lv → List Value → Option (Nat × Lv × List Value)
  | 0, pc, ls, st => some (pc, ls, st)
  | n + 1, pc, ls, st => match fetch cd pc with
    | none => none
    | some (i, _) => match i with
      | .ldc x => (match asc kx x with | some (.int z) => psl kx cd n (pc + 2) ls (.int z :: st) | _ => none)
      | .ldc2_w x => (match asc kx x with | some (.long z) => psl kx cd n (pc + 3) ls (.long z :: st) | _ => none)
      | i => if isPl i = true then (match pstep i pc ls st with | some (pc', ls', st') => psl kx cd n pc' ls' st' | none => none) else none
theorem wpl_sl {P : Cl} {Q : Lw} {sc : Sc} {mi : Nat} {me : Me} {w : Wd} {R : Option Value → Wd → Prop} : ∀ {n pc pc' : Nat} {ls ls' : Lv} {st st' : List Value}, psl Q.kx me.cd n pc ls st = some (pc', ls', st') → wpl P Q sc mi me pc' ls' st' w R → wpl P Q sc mi me pc ls st w R := by
  intro n
  induction n with
  | zero => intro pc pc' ls ls' st st' h hq; cases h; exact hq
  | succ n ih =>
    intro pc pc' ls ls' st st' h hq
    simp only [psl] at h
    split at h
    · cases h
    · rename_i i m hf
      split at h
      · split at h
        · rename_i z e
          exact wpl_one hf (fun rt cc cl k => by simp only [lstep, e]) (ih h hq)
        · cases h
      · split at h
        · rename_i z e
          exact wpl_one hf (fun rt cc cl k => by simp only [lstep, e]) (ih h hq)
        · cases h
      · split at h
        · rename_i hi
          split at h
          · rename_i pc1 ls1 st1 e
            exact wpl_one hf (fun rt cc cl k => by rw [lstep_pl hi, e]) (ih h hq)
          · cases h
        · cases h
theorem wpl_ret {P : Cl} {Q : Lw} {sc : Sc} {mi : Nat} {me : Me} {pc : Nat} {ls : Lv} {st : List Value} {w : Wd} {R : Option Value → Wd → Prop} {i : Instr} {n : Nat} {v : Option Value} (hf : fetch me.cd pc = some (i, n)) (hr : isRet i = true) (h : cret me st i = some v) (hq : R v w) : wpl P Q sc mi me pc ls st w R := by
  refine ⟨1, v, w, ?_, hq⟩
  rw [lexec, hf]; dsimp only
  cases i <;> first | (cases hr; done) | (simp only [lstep]; rw [if_pos hr, h])
theorem wpl_if {P : Cl} {Q : Lw} {sc : Sc} {mi : Nat} {me : Me} {pc a b : Nat} {ls : Lv} {r : List Value} {w : Wd} {R : Option Value → Wd → Prop} {cd : ClassFile.Cond} {o : Int} {n : Nat} {x : Int32} (hf : fetch me.cd pc = some (.ifCond cd o, n)) (ho : 0 ≤ (pc : Int) + o) (ha : jmp pc o = a) (hb : pc + 3 = b)
    (hq : wpl P Q sc mi me (br cd x 0 a b) ls r w R) : wpl P Q sc mi me pc ls (.int x :: r) w R := by
  subst ha hb
  refine wpl_one hf (fun rt cc cl k => ?_) hq
  rw [lstep_pl rfl]
  simp only [pstep, qstep]; rw [if_pos ho]
theorem wpl_icmp {P : Cl} {Q : Lw} {sc : Sc} {mi : Nat} {me : Me} {pc a b : Nat} {ls : Lv} {r : List Value} {w : Wd} {R : Option Value → Wd → Prop} {cd : ClassFile.Cond} {o : Int} {n : Nat} {x y : Int32} (hf : fetch me.cd pc = some (.if_icmp cd o, n)) (ho : 0 ≤ (pc : Int) + o) (ha : jmp pc o = a) (hb : pc + 3 = b)
    (hq : wpl P Q sc mi me (br cd x y a b) ls r w R) : wpl P Q sc mi me pc ls (.int y :: .int x :: r) w R := by
  subst ha hb
  refine wpl_one hf (fun rt cc cl k => ?_) hq
  rw [lstep_pl rfl]
  simp only [pstep, qstep]; rw [if_pos ho]
theorem wpl_br {P : Cl} {Q : Lw} {sc : Sc} {mi : Nat} {me : Me} {a b : Nat} {ls : Lv} {st : List Value} {w : Wd} {R : Option Value → Wd → Prop} {p : Prop} [Decidable p] (h : (p → wpl P Q sc mi me a ls st w R) ∧ (¬ p → wpl P Q sc mi me b ls st w R)) : wpl P Q sc mi me (if p then a else b) ls st w R := by
  by_cases hp : p
  · rw [if_pos hp]; exact h.1 hp
  · rw [if_neg hp]; exact h.2 hp
theorem wpl_lda {P : Cl} {Q : Lw} {N : Nat} {g : Nat → Int32} {mi : Nat} {me : Me} {pc : Nat} {ls : Lv} {r : List Value} {w : Wd} {R : Option Value → Wd → Prop} {n : Nat} {j : Int32} (hf : fetch me.cd pc = some (.iaload, n)) (hj : inb N j) (hq : wpl P Q (some (N, g)) mi me (pc + 1) ls (.int (g (ix j)) :: r) w R) : wpl P Q (some (N, g)) mi me pc ls (.int j :: .ref 0 :: r) w R := by
  refine wpl_one hf (fun rt cc cl k => ?_) hq
  simp only [lstep]; rw [if_pos hj]
theorem wpl_len {P : Cl} {Q : Lw} {N : Nat} {g : Nat → Int32} {mi : Nat} {me : Me} {pc : Nat} {ls : Lv} {r : List Value} {w : Wd} {R : Option Value → Wd → Prop} {n : Nat} (hf : fetch me.cd pc = some (.arraylength, n)) (hq : wpl P Q (some (N, g)) mi me (pc + 1) ls (.int (Int32.ofNat N) :: r) w R) : wpl P Q (some (N, g)) mi me pc ls (.ref 0 :: r) w R := by
  refine wpl_one hf (fun rt cc cl k => ?_) hq
  simp only [lstep]
theorem wpl_new {P : Cl} {Q : Lw} {sc : Sc} {me : Me} {pc cnt : Nat} {ls : Lv} {st : List Value} {os : Nat → St} {R : Option Value → Wd → Prop} {n x : Nat} (hf : fetch me.cd pc = some (.new x, n)) (hx : x = Q.cx) (h1 : (cnt + 1) * (P.al.length + 1) ≤ Q.rc) (h2 : (cnt + 1) * (Q.nf + zs P.al P.al.length) ≤ Q.rs)
    (hq : wpl P Q sc 0 me (pc + 3) ls (.ref (cnt + 1) :: st) (uo os cnt s0, cnt, true) R) : wpl P Q sc 0 me pc ls st (os, cnt, false) R := by
  refine wpl_one hf (fun rt cc cl k => ?_) hq
  simp only [lstep]; rw [if_pos ⟨trivial, hx, trivial, h1, h2⟩]
theorem wpl_ctor {P : Cl} {Q : Lw} {sc : Sc} {me me' : Me} {pc cnt : Nat} {ls : Lv} {st r as : List Value} {os : Nat → St} {R : Option Value → Wd → Prop} {n x : Nat} (hf : fetch me.cd pc = some (.invokespecial x, n)) (hx : x = Q.ci) (hme : asc P.ms 0 = some me') (hst : st.drop me'.na = .ref (cnt + 1) :: r) (has : (st.take me'.na).reverse = as)
    (hg : me'.rf + 1 ≤ me.rf ∧ cats r + (me'.ml + 11) + me'.rl ≤ me.rl ∧ nr (st.take me'.na) = true ∧ (cnt + 1) * (P.al.length + 1) ≤ Q.rc ∧ (cnt + 1) * (Q.nf + zs P.al P.al.length) ≤ Q.rs)
    (hq : calV P 0 0 (.ref 0 :: as) (os cnt) fun s' => wpl P Q sc 0 me (pc + 3) ls r (uo os cnt s', cnt + 1, false) R) : wpl P Q sc 0 me pc ls st (os, cnt, true) R := by
  subst has
  obtain ⟨f1, v, s1, h1, rfl, f2, v2, s2, h2, h3⟩ := hq
  refine ⟨max f1 f2 + 1, v2, s2, ?_, h3⟩
  have h1' := ccall_le (Nat.le_max_left f1 f2) h1
  have h2' := lexec_le (Nat.le_max_right f1 f2) h2
  rw [lexec, hf]; dsimp only
  simp only [lstep, hme, hst]
  rw [if_pos ⟨hx, trivial, trivial, trivial, hg⟩, h1']
  exact h2'
theorem wpl_call {P : Cl} {Q : Lw} {sc : Sc} {mi : Nat} {me me' : Me} {pc x m' o : Nat} {ls : Lv} {st r as : List Value} {w : Wd} {R : Option Value → Wd → Prop} {n : Nat} (hf : fetch me.cd pc = some (.invokevirtual x, n)) (hm : asc Q.vx x = some m') (hme : asc P.ms m' = some me') (hst : st.drop me'.na = .ref (o + 1) :: r) (has : (st.take me'.na).reverse = as)
    (hg : m' ≠ 0 ∧ o < w.2.1 ∧ me'.rf + 1 ≤ me.rf ∧ cats r + (me'.ml + 11) + me'.rl ≤ me.rl ∧ nr (st.take me'.na) = true)
    (hq : cal P m' P.al.length (.ref 0 :: as) (w.1 o) fun v s' => wpl P Q sc mi me (pc + 3) ls (v.toList ++ r) (uo w.1 o s', w.2.1, w.2.2) R) : wpl P Q sc mi me pc ls st w R := by
  subst has
  obtain ⟨f1, v, s1, h1, f2, v2, s2, h2, h3⟩ := hq
  refine ⟨max f1 f2 + 1, v2, s2, ?_, h3⟩
  have h1' := ccall_le (Nat.le_max_left f1 f2) h1
  have h2' := lexec_le (Nat.le_max_right f1 f2) h2
  rw [lexec, hf]; dsimp only
  simp only [lstep, hm, hme, hst]
  rw [if_pos hg, h1']
  cases v <;> exact h2'
theorem wpl_stat {P : Cl} {Q : Lw} {sc : Sc} {mi : Nat} {me me' : Me} {pc x m' : Nat} {ls : Lv} {st r as : List Value} {w : Wd} {R : Option Value → Wd → Prop} {n : Nat} (hf : fetch me.cd pc = some (.invokestatic x, n)) (hm : asc Q.sx x = some m') (hme : asc Q.ms m' = some me') (hst : st.drop me'.na = r) (has : (st.take me'.na).reverse = as)
    (hg : m' ≠ 0 ∧ me'.na ≤ st.length ∧ me'.rf + 1 ≤ me.rf ∧ cats r + (me'.ml + 11) + me'.rl ≤ me.rl ∧ nd (st.take me'.na) = true)
    (hq : lal P Q sc m' as w fun v w' => wpl P Q sc mi me (pc + 3) ls (v.toList ++ r) w' R) : wpl P Q sc mi me pc ls st w R := by
  subst has hst
  obtain ⟨f1, v, s1, h1, f2, v2, s2, h2, h3⟩ := hq
  refine ⟨max f1 f2 + 1, v2, s2, ?_, h3⟩
  have h1' := lcall_le (Nat.le_max_left f1 f2) h1
  have h2' := lexec_le (Nat.le_max_right f1 f2) h2
  rw [lexec, hf]; dsimp only
  simp only [lstep, hm, hme]
  rw [if_pos hg]
  simp only [lcall, hme] at h1'
  rw [h1']
  cases v <;> exact h2'
theorem lal_of {P : Cl} {Q : Lw} {sc : Sc} {m' : Nat} {as : List Value} {w : Wd} {R : Option Value → Wd → Prop} {me : Me} {ls : Lv} (hme : asc Q.ms m' = some me) (hl : (layA as).length ≤ me.ml) (hls : lay as me.ml = ls) (h : wpl P Q sc m' me 0 ls [] w R) : lal P Q sc m' as w R := by
  subst hls
  obtain ⟨f, v, s', h1, h2⟩ := h
  refine ⟨f, v, s', ?_, h2⟩
  simp only [lcall, hme]; rw [if_pos hl]; exact h1
theorem lstep_lle {P : Cl} {Q : Lw} {sc : Sc} {mi : Nat} {me : Me} {rt : Option Value → Wd → Rw} {cc : Nat → Nat → List Value → St → Rs} {cl : Nat → List Value → Wd → Rw} {k : Nat → Lv → List Value → Wd → Rw} {i : Instr} {pc : Nat} {ls ls' : Lv} {st : List Value} {w : Wd} {r : Option Value × Wd} (hl : lle ls ls')
    (hk : ∀ pc ls ls' st s, lle ls ls' → k pc ls st s = some r → k pc ls' st s = some r) (h : lstep P Q sc mi me rt cc cl k i pc ls st w = some r) : lstep P Q sc mi me rt cc cl k i pc ls' st w = some r := by
  unfold lstep at h ⊢
  split at h
  all_goals (try dsimp only)
  · split at h
    · split at h
      · rename_i q; rw [if_pos q]; exact hk _ _ _ _ _ hl h
      · cases h
    · cases h
  iterate 3
    · split at h
      · exact hk _ _ _ _ _ hl h
      · cases h
  · split at h
    · rename_i q; rw [if_pos q]; exact hk _ _ _ _ _ hl h
    · cases h
  · split at h
    · cases h
    · split at h
      · split at h
        · rename_i q
          rw [if_pos q]
          split at h
          · exact hk _ _ _ _ _ hl h
          · cases h
        · cases h
      · cases h
  · split at h
    · cases h
    · split at h
      · cases h
      · split at h
        · split at h
          · rename_i q
            rw [if_pos q]
            split at h
            · exact hk _ _ _ _ _ hl h
            · exact hk _ _ _ _ _ hl h
            · cases h
          · cases h
        · cases h
  · split at h
    · cases h
    · split at h
      · cases h
      · split at h
        · rename_i q
          rw [if_pos q]
          split at h
          · exact hk _ _ _ _ _ hl h
          · exact hk _ _ _ _ _ hl h
          · cases h
        · cases h
  · split at h
    · rename_i q; rw [if_pos q]; exact h
    · rename_i q; rw [if_neg q]
      split at h
      · rename_i e
        obtain ⟨l1', q1, q2⟩ := pstep_lle e hl
        rw [q1]; exact hk _ _ _ _ _ q2 h
      · cases h
theorem lexec_lle {P : Cl} {Q : Lw} {sc : Sc} : ∀ f mi me pc ls ls' st w r, lle ls ls' → lexec P Q sc f mi me pc ls st w = some r → lexec P Q sc f mi me pc ls' st w = some r := by
  intro f
  induction f with
  | zero => intro mi me pc ls ls' st w r _ h; cases h
  | succ f ih =>
    intro mi me pc ls ls' st w r hl h
    rw [lexec] at h ⊢
    split at h
    · cases h
    · exact lstep_lle hl (fun pc ls ls' st s hl h => ih _ _ _ _ _ _ _ _ hl h) h
theorem wpl_lle {P : Cl} {Q : Lw} {sc : Sc} {mi : Nat} {me : Me} {pc : Nat} {ls ls' : Lv} {st : List Value} {w : Wd} {R : Option Value → Wd → Prop} (hl : lle' ls ls') (h : wpl P Q sc mi me pc ls st w R) : wpl P Q sc mi me pc ls' st w R := by
  obtain ⟨f, v, s', h1, h2⟩ := h; exact ⟨f, v, s', lexec_lle _ _ _ _ _ _ _ _ _ (lle_of hl) h1, h2⟩
/-! worlds of no, one and two objects -/
def W0 : Wd := (fun _ => s0, 0, false)
def W0p : Wd := (uo (fun _ => s0) 0 s0, 0, true)
def W1 (s : St) : Wd := (uo (fun _ => s0) 0 s, 1, false)
def W1p (s : St) : Wd := (uo (uo (fun _ => s0) 0 s) 1 s0, 1, true)
def W2 (s t : St) : Wd := (uo (uo (fun _ => s0) 0 s) 1 t, 2, false)
theorem uo_uo (f : Nat → St) (o : Nat) (s t : St) : uo (uo f o s) o t = uo f o t := by
  funext i; simp only [uo]; split <;> rfl
theorem uo_swap (f : Nat → St) {o o' : Nat} (h : o ≠ o') (s t : St) : uo (uo f o s) o' t = uo (uo f o' t) o s := by
  funext i; simp only [uo]
  by_cases a : i = o
  · subst a; simp [h]
  · by_cases b : i = o'
    · subst b; simp [Ne.symm h]
    · simp [a, b]
section Worlds
variable {P : Cl} {Q : Lw} {sc : Sc} {mi : Nat} {me me' : Me} {pc x m' : Nat} {ls : Lv} {st r as : List Value} {R : Option Value → Wd → Prop} {n : Nat} {s t : St}
theorem wpl_new0 (hf : fetch me.cd pc = some (.new x, n)) (hx : x = Q.cx) (h1 : 1 * (P.al.length + 1) ≤ Q.rc) (h2 : 1 * (Q.nf + zs P.al P.al.length) ≤ Q.rs) (hq : wpl P Q sc 0 me (pc + 3) ls (.ref 1 :: st) W0p R) : wpl P Q sc 0 me pc ls st W0 R := wpl_new (cnt := 0) hf hx h1 h2 hq
theorem wpl_new1 (hf : fetch me.cd pc = some (.new x, n)) (hx : x = Q.cx) (h1 : 2 * (P.al.length + 1) ≤ Q.rc) (h2 : 2 * (Q.nf + zs P.al P.al.length) ≤ Q.rs) (hq : wpl P Q sc 0 me (pc + 3) ls (.ref 2 :: st) (W1p s) R) : wpl P Q sc 0 me pc ls st (W1 s) R := wpl_new (cnt := 1) hf hx h1 h2 hq
theorem wpl_ctor0 (hf : fetch me.cd pc = some (.invokespecial x, n)) (hx : x = Q.ci) (hme : asc P.ms 0 = some me') (hst : st.drop me'.na = .ref 1 :: r) (has : (st.take me'.na).reverse = as)
    (hg : me'.rf + 1 ≤ me.rf ∧ cats r + (me'.ml + 11) + me'.rl ≤ me.rl ∧ nr (st.take me'.na) = true ∧ 1 * (P.al.length + 1) ≤ Q.rc ∧ 1 * (Q.nf + zs P.al P.al.length) ≤ Q.rs)
    (hq : calV P 0 0 (.ref 0 :: as) s0 fun s' => wpl P Q sc 0 me (pc + 3) ls r (W1 s') R) : wpl P Q sc 0 me pc ls st W0p R := by
  refine wpl_ctor (cnt := 0) hf hx hme hst has hg ?_
  refine calV.mono (show calV P 0 0 (.ref 0 :: as) (uo (fun _ => s0) 0 s0 0) _ from hq) fun s' h => ?_
  rw [uo_uo]; exact h
theorem wpl_ctor1 (hf : fetch me.cd pc = some (.invokespecial x, n)) (hx : x = Q.ci) (hme : asc P.ms 0 = some me') (hst : st.drop me'.na = .ref 2 :: r) (has : (st.take me'.na).reverse = as)
    (hg : me'.rf + 1 ≤ me.rf ∧ cats r + (me'.ml + 11) + me'.rl ≤ me.rl ∧ nr (st.take me'.na) = true ∧ 2 * (P.al.length + 1) ≤ Q.rc ∧ 2 * (Q.nf + zs P.al P.al.length) ≤ Q.rs)
    (hq : calV P 0 0 (.ref 0 :: as) s0 fun s' => wpl P Q sc 0 me (pc + 3) ls r (W2 s s') R) : wpl P Q sc 0 me pc ls st (W1p s) R := by
  refine wpl_ctor (cnt := 1) hf hx hme hst has hg ?_
  refine calV.mono (show calV P 0 0 (.ref 0 :: as) (uo (uo (fun _ => s0) 0 s) 1 s0 1) _ from hq) fun s' h => ?_
  rw [uo_uo]; exact h
theorem wpl_v1 (hf : fetch me.cd pc = some (.invokevirtual x, n)) (hm : asc Q.vx x = some m') (hme : asc P.ms m' = some me') (hst : st.drop me'.na = .ref 1 :: r) (has : (st.take me'.na).reverse = as)
    (hg : m' ≠ 0 ∧ me'.rf + 1 ≤ me.rf ∧ cats r + (me'.ml + 11) + me'.rl ≤ me.rl ∧ nr (st.take me'.na) = true)
    (hq : cal P m' P.al.length (.ref 0 :: as) s fun v s' => wpl P Q sc mi me (pc + 3) ls (v.toList ++ r) (W1 s') R) : wpl P Q sc mi me pc ls st (W1 s) R := by
  refine wpl_call (o := 0) hf hm hme hst has ⟨hg.1, by show 0 < 1; decide, hg.2⟩ ?_
  refine cal.mono (show cal P m' P.al.length (.ref 0 :: as) ((W1 s).1 0) _ from hq) fun v s' h => ?_
  show wpl P Q sc mi me (pc + 3) ls (v.toList ++ r) (uo (uo (fun _ => s0) 0 s) 0 s', 1, false) R
  rw [uo_uo]; exact h
theorem wpl_v2a (hf : fetch me.cd pc = some (.invokevirtual x, n)) (hm : asc Q.vx x = some m') (hme : asc P.ms m' = some me') (hst : st.drop me'.na = .ref 1 :: r) (has : (st.take me'.na).reverse = as)
    (hg : m' ≠ 0 ∧ me'.rf + 1 ≤ me.rf ∧ cats r + (me'.ml + 11) + me'.rl ≤ me.rl ∧ nr (st.take me'.na) = true)
    (hq : cal P m' P.al.length (.ref 0 :: as) s fun v s' => wpl P Q sc mi me (pc + 3) ls (v.toList ++ r) (W2 s' t) R) : wpl P Q sc mi me pc ls st (W2 s t) R := by
  refine wpl_call (o := 0) hf hm hme hst has ⟨hg.1, by show 0 < 2; decide, hg.2⟩ ?_
  refine cal.mono (show cal P m' P.al.length (.ref 0 :: as) ((W2 s t).1 0) _ from hq) fun v s' h => ?_
  show wpl P Q sc mi me (pc + 3) ls (v.toList ++ r) (uo (uo (uo (fun _ => s0) 0 s) 1 t) 0 s', 2, false) R
  rw [uo_swap _ (by decide), uo_uo]; exact h
theorem wpl_v2b (hf : fetch me.cd pc = some (.invokevirtual x, n)) (hm : asc Q.vx x = some m') (hme : asc P.ms m' = some me') (hst : st.drop me'.na = .ref 2 :: r) (has : (st.take me'.na).reverse = as)
    (hg : m' ≠ 0 ∧ me'.rf + 1 ≤ me.rf ∧ cats r + (me'.ml + 11) + me'.rl ≤ me.rl ∧ nr (st.take me'.na) = true)
    (hq : cal P m' P.al.length (.ref 0 :: as) t fun v s' => wpl P Q sc mi me (pc + 3) ls (v.toList ++ r) (W2 s s') R) : wpl P Q sc mi me pc ls st (W2 s t) R := by
  refine wpl_call (o := 1) hf hm hme hst has ⟨hg.1, by show 1 < 2; decide, hg.2⟩ ?_
  refine cal.mono (show cal P m' P.al.length (.ref 0 :: as) ((W2 s t).1 1) _ from hq) fun v s' h => ?_
  show wpl P Q sc mi me (pc + 3) ls (v.toList ++ r) (uo (uo (uo (fun _ => s0) 0 s) 1 t) 1 s', 2, false) R
  rw [uo_uo]; exact h
end Worlds
theorem cal_I {P : Cl} {m' c : Nat} {as : List Value} {s : St} {F : Option Value → St → Prop} (h : calI P m' c as s fun v s' => F (some (.int v)) s') : cal P m' c as s F := cal.mono h fun _ _ ⟨v, e, q⟩ => by subst e; exact q
theorem cal_L {P : Cl} {m' c : Nat} {as : List Value} {s : St} {F : Option Value → St → Prop} (h : calL P m' c as s fun v s' => F (some (.long v)) s') : cal P m' c as s F := cal.mono h fun _ _ ⟨v, e, q⟩ => by subst e; exact q
theorem cal_V {P : Cl} {m' c : Nat} {as : List Value} {s : St} {F : Option Value → St → Prop} (h : calV P m' c as s fun s' => F none s') : cal P m' c as s F := cal.mono h fun _ _ ⟨e, q⟩ => by subst e; exact q
theorem lal_I {P : Cl} {Q : Lw} {sc : Sc} {m' : Nat} {as : List Value} {w : Wd} {F : Option Value → Wd → Prop} (h : lalI P Q sc m' as w fun v w' => F (some (.int v)) w') : lal P Q sc m' as w F := lal.mono h fun _ _ ⟨v, e, q⟩ => by subst e; exact q
theorem lal_L {P : Cl} {Q : Lw} {sc : Sc} {m' : Nat} {as : List Value} {w : Wd} {F : Option Value → Wd → Prop} (h : lalL P Q sc m' as w fun v w' => F (some (.long v)) w') : lal P Q sc m' as w F := lal.mono h fun _ _ ⟨v, e, q⟩ => by subst e; exact q
theorem lal_V {P : Cl} {Q : Lw} {sc : Sc} {m' : Nat} {as : List Value} {w : Wd} {F : Option Value → Wd → Prop} (h : lalV P Q sc m' as w fun w' => F none w') : lal P Q sc m' as w F := lal.mono h fun _ _ ⟨e, q⟩ => by subst e; exact q
end Jvm.LM

namespace Jvm.LM
open Sem ClassFile Op Lib Jvm.Stand Jvm.Free Jvm.LawKit Jvm.RoadKit
/-! rules for the steps that ask something -/
abbrev wpcI (P : Cl) (mi : Nat) (me : Me) (c pc : Nat) (ls : Lv) (st : List Value) (s : St) (Q : Int32 → St → Prop) : Prop := wpc P mi me c pc ls st s fun r s' => ∃ v, r = some (.int v) ∧ Q v s'
abbrev wpcL (P : Cl) (mi : Nat) (me : Me) (c pc : Nat) (ls : Lv) (st : List Value) (s : St) (Q : Int64 → St → Prop) : Prop := wpc P mi me c pc ls st s fun r s' => ∃ v, r = some (.long v) ∧ Q v s'
abbrev wpcV (P : Cl) (mi : Nat) (me : Me) (c pc : Nat) (ls : Lv) (st : List Value) (s : St) (Q : St → Prop) : Prop := wpc P mi me c pc ls st s fun r s' => r = none ∧ Q s'
abbrev wplI (P : Cl) (Q : Lw) (sc : Sc) (mi : Nat) (me : Me) (pc : Nat) (ls : Lv) (st : List Value) (w : Wd) (R : Int32 → Wd → Prop) : Prop := wpl P Q sc mi me pc ls st w fun r w' => ∃ v, r = some (.int v) ∧ R v w'
abbrev wplL (P : Cl) (Q : Lw) (sc : Sc) (mi : Nat) (me : Me) (pc : Nat) (ls : Lv) (st : List Value) (w : Wd) (R : Int64 → Wd → Prop) : Prop := wpl P Q sc mi me pc ls st w fun r w' => ∃ v, r = some (.long v) ∧ R v w'
abbrev wplV (P : Cl) (Q : Lw) (sc : Sc) (mi : Nat) (me : Me) (pc : Nat) (ls : Lv) (st : List Value) (w : Wd) (R : Wd → Prop) : Prop := wpl P Q sc mi me pc ls st w fun r w' => r = none ∧ R w'
section C
variable {P : Cl} {mi : Nat} {me : Me} {c pc a N n : Nat} {ls : Lv} {r : List Value} {s s' : St} {Q : Option Value → St → Prop} {j : Int32}
theorem wpc_ldaI {v : Int32} (hf : fetch me.cd pc = some (.iaload, n)) (ha : P.al[a]? = some (0, N)) (hac : a < c) (hj : inb N j) (hv : gI s (a + 1) (ix j) = v) (hq : wpc P mi me c (pc + 1) ls (.int v :: r) s Q) : wpc P mi me c pc ls (.int j :: .ref (a + 1) :: r) s Q := by
  subst hv; exact wpc_lda hf (Or.inl ⟨rfl, rfl⟩) ha hac hj hq
theorem wpc_ldaZ {v : Int32} (hf : fetch me.cd pc = some (.baload, n)) (ha : P.al[a]? = some (1, N)) (hac : a < c) (hj : inb N j) (hv : gI s (a + 1) (ix j) = v) (hq : wpc P mi me c (pc + 1) ls (.int v :: r) s Q) : wpc P mi me c pc ls (.int j :: .ref (a + 1) :: r) s Q := by
  subst hv; exact wpc_lda hf (Or.inr (Or.inl ⟨rfl, rfl⟩)) ha hac hj hq
theorem wpc_ldaJ {v : Int64} (hf : fetch me.cd pc = some (.laload, n)) (ha : P.al[a]? = some (2, N)) (hac : a < c) (hj : inb N j) (hv : gL s (a + 1) (ix j) = v) (hq : wpc P mi me c (pc + 1) ls (.long v :: r) s Q) : wpc P mi me c pc ls (.int j :: .ref (a + 1) :: r) s Q := by
  subst hv; exact wpc_lda hf (Or.inr (Or.inr ⟨rfl, rfl⟩)) ha hac hj hq
theorem wpc_staI {z : Int32} (hf : fetch me.cd pc = some (.iastore, n)) (ha : P.al[a]? = some (0, N)) (hac : a < c) (hj : inb N j) (hs : sI s (a + 1) (ix j) z = s') (hq : wpc P mi me c (pc + 1) ls r s' Q) : wpc P mi me c pc ls (.int z :: .int j :: .ref (a + 1) :: r) s Q :=
  wpc_sta hf (Or.inl ⟨rfl, rfl, z, rfl, hs.symm⟩) ha hac hj hq
theorem wpc_staZ {z : Int32} (hf : fetch me.cd pc = some (.bastore, n)) (ha : P.al[a]? = some (1, N)) (hac : a < c) (hj : inb N j) (hs : sI s (a + 1) (ix j) (z &&& 1) = s') (hq : wpc P mi me c (pc + 1) ls r s' Q) : wpc P mi me c pc ls (.int z :: .int j :: .ref (a + 1) :: r) s Q :=
  wpc_sta hf (Or.inr (Or.inl ⟨rfl, rfl, z, rfl, hs.symm⟩)) ha hac hj hq
theorem wpc_staJ {z : Int64} (hf : fetch me.cd pc = some (.lastore, n)) (ha : P.al[a]? = some (2, N)) (hac : a < c) (hj : inb N j) (hs : sL s (a + 1) (ix j) z = s') (hq : wpc P mi me c (pc + 1) ls r s' Q) : wpc P mi me c pc ls (.long z :: .int j :: .ref (a + 1) :: r) s Q :=
  wpc_sta hf (Or.inr (Or.inr ⟨rfl, rfl, z, rfl, hs.symm⟩)) ha hac hj hq
theorem wpc_pl {i : Instr} {pc' : Nat} {ls' : Lv} {st st' : List Value} (hf : fetch me.cd pc = some (i, n)) (hi : ∀ (rt : Option Value → St → Rs) cl (k : Nat → Nat → Lv → List Value → St → Rs), cstep P mi me rt cl k i c pc ls st s = match pstep i pc ls st with | some (pc', ls', st') => k c pc' ls' st' s | none => none) (h : pstep i pc ls st = some (pc', ls', st')) (hq : wpc P mi me c pc' ls' st' s Q) : wpc P mi me c pc ls st s Q :=
  wpc_one hf (fun rt cl k => by rw [hi, h]) hq
theorem wpc_idiv {x y : Int32} (hf : fetch me.cd pc = some (.idiv, n)) (hy : ¬ y = 0) (hq : wpc P mi me c (pc + 1) ls (.int (x / y) :: r) s Q) : wpc P mi me c pc ls (.int y :: .int x :: r) s Q :=
  wpc_pl hf (fun _ _ _ => rfl) (by simp only [pstep, qstep]; rw [if_neg hy]) hq
theorem wpc_irem {x y : Int32} (hf : fetch me.cd pc = some (.irem, n)) (hy : ¬ y = 0) (hq : wpc P mi me c (pc + 1) ls (.int (x % y) :: r) s Q) : wpc P mi me c pc ls (.int y :: .int x :: r) s Q :=
  wpc_pl hf (fun _ _ _ => rfl) (by simp only [pstep, qstep]; rw [if_neg hy]) hq
theorem wpc_ldiv {x y : Int64} (hf : fetch me.cd pc = some (.ldiv, n)) (hy : ¬ y = 0) (hq : wpc P mi me c (pc + 1) ls (.long (x / y) :: r) s Q) : wpc P mi me c pc ls (.long y :: .long x :: r) s Q :=
  wpc_pl hf (fun _ _ _ => rfl) (by simp only [pstep, qstep]; rw [if_neg hy]) hq
end C
/-- the roads of a switch: one a value, from l on -/
def TS (x : Int32) (F : Int → Prop) : List Int → Int → Prop
  | [], _ => True
  | o :: r, l => (x.toInt = l → F o) ∧ TS x F r (l + 1)
theorem TS_at {x : Int32} {F : Int → Prop} : ∀ {os : List Int} {l : Int}, TS x F os l → l ≤ x.toInt → x.toInt < l + os.length → ∃ o, os[(x.toInt - l).toNat]? = some o ∧ F o := by
  intro os
  induction os with
  | nil => intro l _ h1 h2; simp at h2; omega
  | cons o r ih =>
    intro l h h1 h2
    by_cases e : x.toInt = l
    · exact ⟨o, by rw [e]; simp, h.1 e⟩
    · obtain ⟨o', q1, q2⟩ := ih h.2 (by omega) (by simp at h2; omega)
      refine ⟨o', ?_, q2⟩
      have : (x.toInt - l).toNat = (x.toInt - (l + 1)).toNat + 1 := by omega
      rw [this]; simpa using q1
theorem tsw_ok {x : Int32} {F : Int → Prop} {pc : Nat} {ls : Lv} {r : List Value} {d lo hi : Int} {offs : Array Int} (hd : 0 ≤ (pc : Int) + d) (ho : ∀ o ∈ offs.toList, 0 ≤ (pc : Int) + o) (hh : hi + 1 = lo + offs.toList.length)
    (h1 : TS x F offs.toList lo) (h2 : (x.toInt < lo ∨ x.toInt > hi) → F d) : ∃ o, F o ∧ pstep (.tableswitch d lo hi offs) pc ls (.int x :: r) = some (jmp pc o, ls, r) := by
  by_cases hx : x.toInt < lo ∨ x.toInt > hi
  · refine ⟨d, h2 hx, ?_⟩
    simp only [pstep, qstep]; rw [if_pos hx, if_pos hd]
  · obtain ⟨o, q1, q2⟩ := TS_at h1 (by omega) (by omega)
    have q3 : offs[(x.toInt - lo).toNat]? = some o := by rw [← Array.getElem?_toList]; exact q1
    refine ⟨o, q2, ?_⟩
    simp only [pstep, qstep]; rw [if_neg hx, q3]; dsimp only; rw [if_pos (ho o (List.mem_of_getElem? q1))]
theorem wpc_tsw {P : Cl} {mi : Nat} {me : Me} {c pc n : Nat} {ls : Lv} {r : List Value} {s : St} {Q : Option Value → St → Prop} {x : Int32} {d lo hi : Int} {offs : Array Int} (hf : fetch me.cd pc = some (.tableswitch d lo hi offs, n)) (hd : 0 ≤ (pc : Int) + d) (ho : ∀ o ∈ offs.toList, 0 ≤ (pc : Int) + o) (hh : hi + 1 = lo + offs.toList.length)
    (h1 : TS x (fun o => wpc P mi me c (jmp pc o) ls r s Q) offs.toList lo) (h2 : (x.toInt < lo ∨ x.toInt > hi) → wpc P mi me c (jmp pc d) ls r s Q) : wpc P mi me c pc ls (.int x :: r) s Q := by
  obtain ⟨o, q1, q2⟩ := tsw_ok (ls := ls) (r := r) hd ho hh h1 h2
  exact wpc_pl hf (fun _ _ _ => rfl) q2 q1
section L
variable {P : Cl} {Q : Lw} {sc : Sc} {mi : Nat} {me : Me} {pc n : Nat} {ls : Lv} {r : List Value} {w : Wd} {R : Option Value → Wd → Prop}
theorem wpl_pl {i : Instr} {pc' : Nat} {ls' : Lv} {st st' : List Value} (hf : fetch me.cd pc = some (i, n)) (hi : isPl i = true) (h : pstep i pc ls st = some (pc', ls', st')) (hq : wpl P Q sc mi me pc' ls' st' w R) : wpl P Q sc mi me pc ls st w R :=
  wpl_one hf (fun rt cc cl k => by rw [lstep_pl hi, h]) hq
theorem wpl_idiv {x y : Int32} (hf : fetch me.cd pc = some (.idiv, n)) (hy : ¬ y = 0) (hq : wpl P Q sc mi me (pc + 1) ls (.int (x / y) :: r) w R) : wpl P Q sc mi me pc ls (.int y :: .int x :: r) w R :=
  wpl_pl hf rfl (by simp only [pstep, qstep]; rw [if_neg hy]) hq
theorem wpl_irem {x y : Int32} (hf : fetch me.cd pc = some (.irem, n)) (hy : ¬ y = 0) (hq : wpl P Q sc mi me (pc + 1) ls (.int (x % y) :: r) w R) : wpl P Q sc mi me pc ls (.int y :: .int x :: r) w R :=
  wpl_pl hf rfl (by simp only [pstep, qstep]; rw [if_neg hy]) hq
theorem wpl_ldiv {x y : Int64} (hf : fetch me.cd pc = some (.ldiv, n)) (hy : ¬ y = 0) (hq : wpl P Q sc mi me (pc + 1) ls (.long (x / y) :: r) w R) : wpl P Q sc mi me pc ls (.long y :: .long x :: r) w R :=
  wpl_pl hf rfl (by simp only [pstep, qstep]; rw [if_neg hy]) hq
theorem wpl_tsw {x : Int32} {d lo hi : Int} {offs : Array Int} (hf : fetch me.cd pc = some (.tableswitch d lo hi offs, n)) (hd : 0 ≤ (pc : Int) + d) (ho : ∀ o ∈ offs.toList, 0 ≤ (pc : Int) + o) (hh : hi + 1 = lo + offs.toList.length)
    (h1 : TS x (fun o => wpl P Q sc mi me (jmp pc o) ls r w R) offs.toList lo) (h2 : (x.toInt < lo ∨ x.toInt > hi) → wpl P Q sc mi me (jmp pc d) ls r w R) : wpl P Q sc mi me pc ls (.int x :: r) w R := by
  obtain ⟨o, q1, q2⟩ := tsw_ok (ls := ls) (r := r) hd ho hh h1 h2
  exact wpl_pl hf rfl q2 q1
end L
/-! the links, by lists -/
def AllA {α : Type} (Q : Nat → α → Prop) : List (Nat × α) → Prop
  | [] => True
  | (a, b) :: r => Q a b ∧ AllA Q r
theorem asc_all {α : Type} {Q : Nat → α → Prop} {l : List (Nat × α)} (h : AllA Q l) : ∀ k v, asc l k = some v → Q k v := by
  induction l with
  | nil => intro k v e; cases e
  | cons x r ih =>
    intro k v e
    obtain ⟨a, b⟩ := x
    simp only [asc] at e
    cases q : Nat.beq a k
    · rw [q] at e; exact ih h.2 k v e
    · rw [q] at e; cases e
      obtain rfl := Nat.eq_of_beq_eq_true q
      exact h.1
def AllL (Q : Nat → Nat → Prop) : List (Nat × Nat) → Prop
  | [] => True
  | (a, b) :: r => Q a b ∧ AllL Q r
theorem lst_all {Q : Nat → Nat → Prop} {l : List (Nat × Nat)} (h : AllL Q l) : ∀ (j tt N : Nat), l[j]? = some (tt, N) → Q tt N := by
  induction l with
  | nil => intro j tt N e; simp at e
  | cons x r ih =>
    intro j tt N e
    obtain ⟨a, b⟩ := x
    cases j with
    | zero => simp at e; obtain ⟨rfl, rfl⟩ := e; exact h.1
    | succ j => simp at e; exact ih h.2 j tt N e
def dst1 (k : Nat) (fe : Fe) : List (Nat × Fe) → Bool
  | [] => true
  | (k', fe') :: r => (!(fe.1 == fe'.1)) && (decide (fe.2.2.1 < 3) || !(Nat.beq fe.2.2.1 fe'.2.2.1)) && dst1 k fe r
def dst : List (Nat × Fe) → Bool
  | [] => true
  | (k, fe) :: r => dst1 k fe r && dst r
theorem dst1_ok {k : Nat} {fe : Fe} {l : List (Nat × Fe)} (h : dst1 k fe l = true) : ∀ k' fe', asc l k' = some fe' → fe.1 ≠ fe'.1 ∧ (3 ≤ fe.2.2.1 → fe.2.2.1 ≠ fe'.2.2.1) := by
  induction l with
  | nil => intro k' fe' e; cases e
  | cons x r ih =>
    intro k' fe' e
    obtain ⟨a, b⟩ := x
    simp only [dst1, Bool.and_eq_true] at h
    obtain ⟨⟨h1, h2⟩, h3⟩ := h
    simp only [asc] at e
    cases q : Nat.beq a k'
    · rw [q] at e; exact ih h3 k' fe' e
    · rw [q] at e; cases e
      refine ⟨fun q2 => by rw [q2] at h1; simp at h1, fun q2 q3 => ?_⟩
      rw [q3] at h2 q2
      simp only [Bool.or_eq_true, decide_eq_true_eq, Bool.not_eq_true'] at h2
      rcases h2 with h2 | h2
      · omega
      · rw [Nat.beq_refl] at h2; cases h2
theorem dst_ok {l : List (Nat × Fe)} (h : dst l = true) : ∀ (k k' : Nat) (fe fe' : Fe), asc l k = some fe → asc l k' = some fe' → k ≠ k' → fe.1 ≠ fe'.1 ∧ (3 ≤ fe.2.2.1 → fe.2.2.1 ≠ fe'.2.2.1) := by
  induction l with
  | nil => intro k k' fe fe' e; cases e
  | cons x r ih =>
    intro k k' fe fe' e e' hne
    obtain ⟨a, b⟩ := x
    simp only [dst, Bool.and_eq_true] at h
    simp only [asc] at e e'
    cases q : Nat.beq a k <;> cases q' : Nat.beq a k' <;> rw [q] at e <;> rw [q'] at e'
    · exact ih h.2 k k' fe fe' e e' hne
    · cases e'
      obtain ⟨h1, h2⟩ := dst1_ok h.1 k fe e
      exact ⟨Ne.symm h1, fun z1 z2 => h2 (z2 ▸ z1) z2.symm⟩
    · cases e; exact dst1_ok h.1 k' fe' e'
    · exact absurd ((Nat.eq_of_beq_eq_true q).symm.trans (Nat.eq_of_beq_eq_true q')) hne
def chk (bytes : ByteArray) : Cd → Bool
  | [] => true
  | (pc, i, n) :: r => (match decode bytes pc with | .ok (i', n') => decide (i' = i ∧ n' = n) | .error _ => false) && (isSw i || Nat.beq n (ilen i)) && chk bytes r
theorem chk_ok {bytes : ByteArray} {cd : Cd} (h : chk bytes cd = true) : ∀ pc i n, fetch cd pc = some (i, n) → decode bytes pc = .ok (i, n) ∧ (isSw i = true ∨ n = ilen i) := by
  induction cd with
  | nil => intro pc i n e; cases e
  | cons x r ih =>
    intro pc i n e
    obtain ⟨a, i', n'⟩ := x
    simp only [chk, Bool.and_eq_true] at h
    obtain ⟨⟨h1, h2⟩, h3⟩ := h
    simp only [fetch] at e
    cases q : Nat.beq a pc
    · rw [q] at e; exact ih h3 pc i n e
    · rw [q] at e; cases e
      obtain rfl := Nat.eq_of_beq_eq_true q
      refine ⟨?_, ?_⟩
      · split at h1
        · rename_i i2 n2 hd
          obtain ⟨rfl, rfl⟩ := of_decide_eq_true h1
          exact hd
        · cases h1
      · simp only [Bool.or_eq_true] at h2
        exact h2.imp id Nat.eq_of_beq_eq_true
/-- the array that the law is handed -/
theorem script_of {s : State} {args : Array Value} {a : Addr} {cl : Cell} {t : Term} {k : Int32} (hf : Fit s) (A : Arr s s.heap a cl .int) (ev : t.eval args s none [] s = some (.ref a)) (hl : (Cond.le (Term.length t) (Term.int k)).value args s none s [] = some true) :
    (cl.slots.size < 2 ^ 31 ∧ (cl.slots.size : Int) ≤ k.toInt) ∧ SRep s s.heap a s.heap.size (some (cl.slots.size, fun i => match cl.slots[i]? with | some (.int x) => x | _ => 0)) := by
  obtain ⟨x, y, h1, h2, -⟩ := cmp_v (Or.inr (Or.inr hl))
  have hz : cl.slots.size < 2 ^ 31 := by
    have q : (Term.length t).eval args s none [] s = if cl.slots.size < 2 ^ 31 then some (.int cl.slots.size.toInt32) else none := by simp [Term.eval, ev, A.fin (Vm.Alike.refl _)]
    rw [h1] at q
    split at q
    · assumption
    · cases q
  have h1' := len_f ev (A.fin (Vm.Alike.refl _)) hz (args := args) (first := s) (o := none) (idx := [])
  have hle := gotT (Cond.le_ints h1' (Term.int_eval k)) hl
  rw [Int32.le_iff_toInt_le, len_toInt hz] at hle
  refine ⟨⟨hz, hle⟩, A.lt, cl, A, rfl, fun i hi => ?_⟩
  have e1 : cl.slots[i]? = some cl.slots[i] := Array.getElem?_eq_getElem hi
  have q := elem_fit hf A (j := i.toInt32) (idx_in hi hz)
  have e2 : i.toInt32.toNatClampNeg = i := by
    have := len_toInt (n := i) (by omega)
    simp only [Int32.toNatClampNeg, this]; rfl
  rw [e2] at q
  obtain ⟨v, hv, hfv⟩ := q
  obtain ⟨x, rfl⟩ := fit_I hfv (Or.inl rfl)
  rw [hv]
  dsimp only
  rw [hv]
end Jvm.LM
namespace Jvm.LM
theorem law_run {P : Cl} {Q : Lw} {sc : Sc} {as : List Value} (h : lalI P Q sc 0 as W0 fun v _ => v = 1) {me : Me} (hme : asc Q.ms 0 = some me) : ∃ f w', lexec P Q sc f 0 me 0 (lay as me.ml) [] W0 = some (some (.int 1), w') := by
  obtain ⟨f, v, w', h1, v', rfl, rfl⟩ := h
  refine ⟨f, w', ?_⟩
  simp only [lcall, hme] at h1
  split at h1
  · exact h1
  · cases h1
end Jvm.LM

namespace Jvm.LM
open Jvm.RoadKit
/-! numbers -/
theorem i32_add {x y : Int32} (h1 : -2147483648 ≤ x.toInt + y.toInt) (h2 : x.toInt + y.toInt < 2147483648) : (x + y).toInt = x.toInt + y.toInt := by
  have := c_iadd x y; have := rng32 (x + y); omega
theorem i32_sub {x y : Int32} (h1 : -2147483648 ≤ x.toInt - y.toInt) (h2 : x.toInt - y.toInt < 2147483648) : (x - y).toInt = x.toInt - y.toInt := by
  have := c_isub x y; have := rng32 (x - y); omega
theorem i32_mul {x y : Int32} (h1 : -2147483648 ≤ x.toInt * y.toInt) (h2 : x.toInt * y.toInt < 2147483648) : (x * y).toInt = x.toInt * y.toInt := by
  have := c_imul x y; have := rng32 (x * y); omega
theorem ix_int {i : Int32} (h : 0 ≤ i.toInt) : (ix i : Int) = i.toInt := by simp only [ix, Int32.toNatClampNeg]; omega
theorem ix_inj {i j : Int32} (hi : 0 ≤ i.toInt) (hj : 0 ≤ j.toInt) : ix i = ix j ↔ i = j := by
  have a := ix_int hi; have b := ix_int hj
  rw [← Int32.toInt_inj]; omega
theorem i32_lt {x y : Int32} : x < y ↔ x.toInt < y.toInt := Int32.lt_iff_toInt_lt
theorem i32_eq {x y : Int32} : x = y ↔ x.toInt = y.toInt := Int32.toInt_inj.symm
/-- a loop that counts up to N: from the next turn to this one -/
theorem loop_up {F : Int32 → Prop} (N : Int) (hN : N < 2147483647) (step : ∀ i, 0 ≤ i.toInt → i.toInt < N → (i + 1).toInt = i.toInt + 1 → F (i + 1) → F i) (last : ∀ i, i.toInt = N → F i) : ∀ i, 0 ≤ i.toInt → i.toInt ≤ N → F i := by
  have key : ∀ n : Nat, ∀ i : Int32, 0 ≤ i.toInt → i.toInt + n = N → F i := by
    intro n
    induction n with
    | zero => intro i h0 h1; exact last i (by omega)
    | succ n ih =>
      intro i h0 h1
      have e : (i + 1).toInt = i.toInt + 1 := i32_add (by simp; omega) (by simp; omega)
      exact step i h0 (by omega) e (ih (i + 1) (by omega) (by omega))
  intro i h0 h1
  exact key (N - i.toInt).toNat i h0 (by omega)
theorem cmpL_lt {x y : Int64} : Jvm.Free.XT.cmpL x y < 0 ↔ x < y := by
  unfold Jvm.Free.XT.cmpL; split
  · rename_i h; exact ⟨fun q => absurd q (by decide), fun q => by rw [Int64.lt_iff_toInt_lt] at h q; omega⟩
  · split
    · rename_i h; subst h; exact ⟨fun q => absurd q (by decide), fun q => by rw [Int64.lt_iff_toInt_lt] at q; omega⟩
    · rename_i h1 h2
      refine ⟨fun _ => ?_, fun _ => by decide⟩
      rw [Int64.lt_iff_toInt_lt] at h1 ⊢; rw [← Int64.toInt_inj] at h2; omega
theorem cmpL_gt {x y : Int64} : 0 < Jvm.Free.XT.cmpL x y ↔ y < x := by
  unfold Jvm.Free.XT.cmpL; split
  · rename_i h; exact ⟨fun _ => h, fun _ => by decide⟩
  · rename_i h; split
    · exact ⟨fun q => absurd q (by decide), fun q => absurd q h⟩
    · exact ⟨fun q => absurd q (by decide), fun q => absurd q h⟩
theorem cmpL_eq {x y : Int64} : Jvm.Free.XT.cmpL x y = 0 ↔ x = y := by
  unfold Jvm.Free.XT.cmpL; split
  · rename_i h; exact ⟨fun q => absurd q (by decide), fun q => by subst q; rw [Int64.lt_iff_toInt_lt] at h; omega⟩
  · split
    · rename_i h; exact ⟨fun _ => h, fun _ => rfl⟩
    · rename_i h1 h2; exact ⟨fun q => absurd q (by decide), fun q => absurd q h2⟩
end Jvm.LM

namespace Jvm.Pilot.@@N@@
open Jvm Jvm.ClassFile Sem Op Lib Jvm.Free Jvm.Stand Jvm.LawKit Jvm.RoadKit Jvm.LM Bundle Jvm.Pilot.@@N@@.Jvm.D
def cm0 : Me := ("<init>", "(III)V", 3, 0, [(0, .aload_n 0, 1), (1, .invokespecial 1, 3), (4, .aload_n 0, 1), (5, .bipush 8, 2), (7, .newarray .boolean, 2), (9, .putfield 7, 3), (12, .aload_n 0, 1), (13, .bipush 8, 2), (15, .newarray .boolean, 2), (17, .putfield 13, 3), (20, .aload_n 0, 1), (21, .sipush 128, 3), (24, .newarray .int, 2), (26, .putfield 16, 3), (29, .aload_n 0, 1), (30, .bipush 8, 2), (32, .newarray .int, 2), (34, .putfield 20, 3), (37, .aload_n 0, 1), (38, .bipush 8, 2), (40, .newarray .int, 2), (42, .putfield 23, 3), (45, .aload_n 0, 1), (46, .bipush 64, 2), (48, .newarray .boolean, 2), (50, .putfield 26, 3), (53, .aload_n 0, 1), (54, .bipush 64, 2), (56, .newarray .int, 2), (58, .putfield 29, 3), (61, .aload_n 0, 1), (62, .bipush 64, 2), (64, .newarray .boolean, 2), (66, .putfield 32, 3), (69, .aload_n 0, 1), (70, .bipush 64, 2), (72, .newarray .int, 2), (74, .putfield 35, 3), (77, .aload_n 0, 1), (78, .bipush 16, 2), (80, .newarray .int, 2), (82, .putfield 38, 3), (85, .aload_n 0, 1), (86, .bipush 16, 2), (88, .newarray .int, 2), (90, .putfield 41, 3), (93, .aload_n 0, 1), (94, .aload_n 0, 1), (95, .iload_n 1, 1), (96, .iconst 1, 1), (97, .bipush 8, 2), (99, .invokevirtual 44, 3), (102, .putfield 48, 3), (105, .aload_n 0, 1), (106, .aload_n 0, 1), (107, .iload_n 2, 1), (108, .iconst 1, 1), (109, .bipush 16, 2), (111, .invokevirtual 44, 3), (114, .putfield 52, 3), (117, .aload_n 0, 1), (118, .aload_n 0, 1), (119, .iload_n 3, 1), (120, .iconst 1, 1), (121, .iconst 4, 1), (122, .invokevirtual 44, 3), (125, .putfield 55, 3), (128, .aload_n 0, 1), (129, .iconst 0, 1), (130, .putfield 58, 3), (133, .return_, 1)], 4, 1, 16)
def cm2 : Me := ("clamp", "(III)I", 3, 1, [(0, .iload_n 1, 1), (1, .iload_n 2, 1), (2, .if_icmp .ge 5, 3), (5, .iload_n 2, 1), (6, .ireturn, 1), (7, .iload_n 1, 1), (8, .iload_n 3, 1), (9, .if_icmp .le 5, 3), (12, .iload_n 3, 1), (13, .ireturn, 1), (14, .iload_n 1, 1), (15, .ireturn, 1)], 4, 0, 0)
def cm3 : Me := ("isOpen", "(I)Z", 1, 2, [(0, .iload_n 1, 1), (1, .ifCond .lt 13, 3), (4, .iload_n 1, 1), (5, .iconst 2, 1), (6, .aload_n 0, 1), (7, .getfield 48, 3), (10, .imul, 1), (11, .if_icmp .lt 5, 3), (14, .iconst 0, 1), (15, .ireturn, 1), (16, .iload_n 1, 1), (17, .iconst 1, 1), (18, .ishr, 1), (19, .istore_n 2, 1), (20, .iload_n 1, 1), (21, .iconst 1, 1), (22, .iand, 1), (23, .ifCond .ne 10, 3), (26, .aload_n 0, 1), (27, .getfield 7, 3), (30, .iload_n 2, 1), (31, .baload, 1), (32, .ireturn, 1), (33, .aload_n 0, 1), (34, .getfield 13, 3), (37, .iload_n 2, 1), (38, .baload, 1), (39, .ireturn, 1)], 3, 0, 0)
def cm4 : Me := ("rawReady", "(I)I", 1, 1, [(0, .iload_n 1, 1), (1, .iconst 1, 1), (2, .ishr, 1), (3, .istore_n 2, 1), (4, .iconst 0, 1), (5, .istore_n 3, 1), (6, .iload_n 1, 1), (7, .iconst 1, 1), (8, .iand, 1), (9, .ifCond .ne 41, 3), (12, .aload_n 0, 1), (13, .getfield 23, 3), (16, .iload_n 2, 1), (17, .iaload, 1), (18, .ifCond .gt 12, 3), (21, .aload_n 0, 1), (22, .getfield 13, 3), (25, .iload_n 2, 1), (26, .baload, 1), (27, .ifCond .ne 7, 3), (30, .iload_n 3, 1), (31, .iconst 1, 1), (32, .ior, 1), (33, .istore_n 3, 1), (34, .aload_n 0, 1), (35, .getfield 13, 3), (38, .iload_n 2, 1), (39, .baload, 1), (40, .ifCond .ne 50, 3), (43, .iload_n 3, 1), (44, .iconst 4, 1), (45, .ior, 1), (46, .istore_n 3, 1), (47, .goto 43, 3), (50, .aload_n 0, 1), (51, .getfield 23, 3), (54, .iload_n 2, 1), (55, .iaload, 1), (56, .aload_n 0, 1), (57, .getfield 52, 3), (60, .if_icmp .lt 12, 3), (63, .aload_n 0, 1), (64, .getfield 7, 3), (67, .iload_n 2, 1), (68, .baload, 1), (69, .ifCond .ne 7, 3), (72, .iload_n 3, 1), (73, .iconst 2, 1), (74, .ior, 1), (75, .istore_n 3, 1), (76, .aload_n 0, 1), (77, .getfield 7, 3), (80, .iload_n 2, 1), (81, .baload, 1), (82, .ifCond .ne 8, 3), (85, .iload_n 3, 1), (86, .bipush 8, 2), (88, .ior, 1), (89, .istore_n 3, 1), (90, .iload_n 3, 1), (91, .ireturn, 1)], 4, 0, 0)
def cm5 : Me := ("watched", "(I)I", 1, 1, [(0, .iload_n 1, 1), (1, .iconst 3, 1), (2, .iand, 1), (3, .iconst 4, 1), (4, .ior, 1), (5, .bipush 8, 2), (7, .ior, 1), (8, .ireturn, 1)], 2, 0, 0)
def cm6 : Me := ("validQ", "(I)Z", 1, 2, [(0, .iload_n 1, 1), (1, .ifCond .lt 15, 3), (4, .iload_n 1, 1), (5, .aload_n 0, 1), (6, .getfield 55, 3), (9, .if_icmp .ge 7, 3), (12, .iconst 1, 1), (13, .goto 4, 3), (16, .iconst 0, 1), (17, .ireturn, 1)], 2, 0, 0)
def cm7 : Me := ("validWord", "(I)Z", 1, 2, [(0, .iload_n 1, 1), (1, .bipush (-52), 2), (3, .iand, 1), (4, .ifCond .ne 7, 3), (7, .iconst 1, 1), (8, .goto 4, 3), (11, .iconst 0, 1), (12, .ireturn, 1)], 2, 0, 0)
def cm8 : Me := ("slot", "(II)I", 2, 1, [(0, .iload_n 1, 1), (1, .bipush 16, 2), (3, .imul, 1), (4, .iload_n 2, 1), (5, .iadd, 1), (6, .ireturn, 1)], 3, 0, 0)
def cm9 : Me := ("peek", "(II)I", 2, 1, [(0, .aload_n 0, 1), (1, .getfield 32, 3), (4, .iload_n 1, 1), (5, .baload, 1), (6, .ifCond .ne 5, 3), (9, .iconst 0, 1), (10, .ireturn, 1), (11, .aload_n 0, 1), (12, .getfield 29, 3), (15, .iload_n 1, 1), (16, .iaload, 1), (17, .bipush 16, 2), (19, .iand, 1), (20, .ifCond .eq 10, 3), (23, .aload_n 0, 1), (24, .getfield 35, 3), (27, .iload_n 1, 1), (28, .iaload, 1), (29, .ireturn, 1), (30, .aload_n 0, 1), (31, .iload_n 2, 1), (32, .invokevirtual 61, 3), (35, .aload_n 0, 1), (36, .aload_n 0, 1), (37, .getfield 29, 3), (40, .iload_n 1, 1), (41, .iaload, 1), (42, .invokevirtual 65, 3), (45, .iand, 1), (46, .ireturn, 1)], 3, 1, 15)
def cm10 : Me := ("arm", "(III)V", 3, 0, [(0, .aload_n 0, 1), (1, .getfield 29, 3), (4, .iload_n 1, 1), (5, .iload_n 3, 1), (6, .iastore, 1), (7, .aload_n 0, 1), (8, .getfield 32, 3), (11, .iload_n 1, 1), (12, .iconst 1, 1), (13, .bastore, 1), (14, .iload_n 3, 1), (15, .bipush 16, 2), (17, .iand, 1), (18, .ifCond .eq 23, 3), (21, .aload_n 0, 1), (22, .getfield 35, 3), (25, .iload_n 1, 1), (26, .aload_n 0, 1), (27, .iload_n 2, 1), (28, .invokevirtual 61, 3), (31, .aload_n 0, 1), (32, .iload_n 3, 1), (33, .invokevirtual 65, 3), (36, .iand, 1), (37, .iastore, 1), (38, .goto 10, 3), (41, .aload_n 0, 1), (42, .getfield 35, 3), (45, .iload_n 1, 1), (46, .iconst 0, 1), (47, .iastore, 1), (48, .return_, 1)], 4, 1, 17)
def cm11 : Me := ("clearReg", "(I)V", 1, 0, [(0, .aload_n 0, 1), (1, .getfield 26, 3), (4, .iload_n 1, 1), (5, .iconst 0, 1), (6, .bastore, 1), (7, .aload_n 0, 1), (8, .getfield 29, 3), (11, .iload_n 1, 1), (12, .iconst 0, 1), (13, .iastore, 1), (14, .aload_n 0, 1), (15, .getfield 32, 3), (18, .iload_n 1, 1), (19, .iconst 0, 1), (20, .bastore, 1), (21, .aload_n 0, 1), (22, .getfield 35, 3), (25, .iload_n 1, 1), (26, .iconst 0, 1), (27, .iastore, 1), (28, .return_, 1)], 2, 0, 0)
def cm12 : Me := ("removeRegs", "(I)V", 1, 0, [(0, .iconst 0, 1), (1, .istore_n 2, 1), (2, .iload_n 2, 1), (3, .aload_n 0, 1), (4, .getfield 55, 3), (7, .if_icmp .ge 19, 3), (10, .aload_n 0, 1), (11, .aload_n 0, 1), (12, .iload_n 2, 1), (13, .iload_n 1, 1), (14, .invokevirtual 68, 3), (17, .invokevirtual 72, 3), (20, .iinc 2 1, 3), (23, .goto (-21), 3), (26, .return_, 1)], 3, 1, 15)
def cm13 : Me := ("edgeUpdate", "(II)V", 2, 0, [(0, .aload_n 0, 1), (1, .iload_n 1, 1), (2, .invokevirtual 76, 3), (5, .ifCond .ne 4, 3), (8, .return_, 1), (9, .aload_n 0, 1), (10, .iload_n 1, 1), (11, .invokevirtual 61, 3), (14, .istore_n 3, 1), (15, .iconst 0, 1), (16, .istore 4, 2), (18, .iload 4, 2), (20, .aload_n 0, 1), (21, .getfield 55, 3), (24, .if_icmp .ge 89, 3), (27, .aload_n 0, 1), (28, .iload 4, 2), (30, .iload_n 1, 1), (31, .invokevirtual 68, 3), (34, .istore 5, 2), (36, .aload_n 0, 1), (37, .getfield 26, 3), (40, .iload 5, 2), (42, .baload, 1), (43, .ifCond .eq 64, 3), (46, .aload_n 0, 1), (47, .getfield 32, 3), (50, .iload 5, 2), (52, .baload, 1), (53, .ifCond .eq 54, 3), (56, .aload_n 0, 1), (57, .getfield 29, 3), (60, .iload 5, 2), (62, .iaload, 1), (63, .bipush 16, 2), (65, .iand, 1), (66, .ifCond .eq 41, 3), (69, .aload_n 0, 1), (70, .aload_n 0, 1), (71, .getfield 29, 3), (74, .iload 5, 2), (76, .iaload, 1), (77, .invokevirtual 65, 3), (80, .istore 6, 2), (82, .aload_n 0, 1), (83, .getfield 35, 3), (86, .iload 5, 2), (88, .aload_n 0, 1), (89, .getfield 35, 3), (92, .iload 5, 2), (94, .iaload, 1), (95, .iload_n 3, 1), (96, .iand, 1), (97, .iload_n 3, 1), (98, .iload_n 2, 1), (99, .iconst (-1), 1), (100, .ixor, 1), (101, .iand, 1), (102, .iload 6, 2), (104, .iand, 1), (105, .ior, 1), (106, .iastore, 1), (107, .iinc 4 1, 3), (110, .goto (-92), 3), (113, .return_, 1)], 7, 1, 15)
def cm14 : Me := ("lookup", "(II)I", 2, 1, [(0, .aload_n 0, 1), (1, .iload_n 1, 1), (2, .invokevirtual 80, 3), (5, .ifCond .eq 11, 3), (8, .aload_n 0, 1), (9, .iload_n 2, 1), (10, .invokevirtual 76, 3), (13, .ifCond .ne 5, 3), (16, .iconst (-1), 1), (17, .ireturn, 1), (18, .aload_n 0, 1), (19, .iload_n 1, 1), (20, .iload_n 2, 1), (21, .invokevirtual 68, 3), (24, .istore_n 3, 1), (25, .aload_n 0, 1), (26, .getfield 26, 3), (29, .iload_n 3, 1), (30, .baload, 1), (31, .ifCond .ne 5, 3), (34, .iconst (-1), 1), (35, .ireturn, 1), (36, .iload_n 3, 1), (37, .ireturn, 1)], 4, 1, 14)
def cm15 : Me := ("createPipe", "()I", 0, 1, [(0, .iconst 0, 1), (1, .istore_n 1, 1), (2, .iload_n 1, 1), (3, .aload_n 0, 1), (4, .getfield 48, 3), (7, .if_icmp .ge 57, 3), (10, .aload_n 0, 1), (11, .getfield 7, 3), (14, .iload_n 1, 1), (15, .baload, 1), (16, .ifCond .ne 42, 3), (19, .aload_n 0, 1), (20, .getfield 13, 3), (23, .iload_n 1, 1), (24, .baload, 1), (25, .ifCond .ne 33, 3), (28, .aload_n 0, 1), (29, .getfield 7, 3), (32, .iload_n 1, 1), (33, .iconst 1, 1), (34, .bastore, 1), (35, .aload_n 0, 1), (36, .getfield 13, 3), (39, .iload_n 1, 1), (40, .iconst 1, 1), (41, .bastore, 1), (42, .aload_n 0, 1), (43, .getfield 20, 3), (46, .iload_n 1, 1), (47, .iconst 0, 1), (48, .iastore, 1), (49, .aload_n 0, 1), (50, .getfield 23, 3), (53, .iload_n 1, 1), (54, .iconst 0, 1), (55, .iastore, 1), (56, .iload_n 1, 1), (57, .ireturn, 1), (58, .iinc 1 1, 3), (61, .goto (-59), 3), (64, .bipush (-8), 2), (66, .ireturn, 1)], 2, 0, 0)
def cm16 : Me := ("write", "(II)I", 2, 1, [(0, .aload_n 0, 1), (1, .iload_n 1, 1), (2, .invokevirtual 76, 3), (5, .ifCond .eq 9, 3), (8, .iload_n 1, 1), (9, .iconst 1, 1), (10, .iand, 1), (11, .ifCond .ne 5, 3), (14, .iconst (-1), 1), (15, .ireturn, 1), (16, .iload_n 1, 1), (17, .iconst 1, 1), (18, .ishr, 1), (19, .istore_n 3, 1), (20, .aload_n 0, 1), (21, .getfield 7, 3), (24, .iload_n 3, 1), (25, .baload, 1), (26, .ifCond .ne 6, 3), (29, .bipush (-4), 2), (31, .ireturn, 1), (32, .aload_n 0, 1), (33, .getfield 23, 3), (36, .iload_n 3, 1), (37, .iaload, 1), (38, .aload_n 0, 1), (39, .getfield 52, 3), (42, .if_icmp .lt 6, 3), (45, .bipush (-2), 2), (47, .ireturn, 1), (48, .aload_n 0, 1), (49, .iconst 2, 1), (50, .iload_n 3, 1), (51, .imul, 1), (52, .invokevirtual 61, 3), (55, .istore 4, 2), (57, .aload_n 0, 1), (58, .iconst 2, 1), (59, .iload_n 3, 1), (60, .imul, 1), (61, .iconst 1, 1), (62, .iadd, 1), (63, .invokevirtual 61, 3), (66, .istore 5, 2), (68, .aload_n 0, 1), (69, .getfield 20, 3), (72, .iload_n 3, 1), (73, .iaload, 1), (74, .aload_n 0, 1), (75, .getfield 23, 3), (78, .iload_n 3, 1), (79, .iaload, 1), (80, .iadd, 1), (81, .bipush 15, 2), (83, .iand, 1), (84, .istore 6, 2), (86, .aload_n 0, 1), (87, .getfield 16, 3), (90, .iload_n 3, 1), (91, .bipush 16, 2), (93, .imul, 1), (94, .iload 6, 2), (96, .iadd, 1), (97, .iload_n 2, 1), (98, .sipush 255, 3), (101, .iand, 1), (102, .iastore, 1), (103, .aload_n 0, 1), (104, .getfield 23, 3), (107, .iload_n 3, 1), (108, .aload_n 0, 1), (109, .getfield 23, 3), (112, .iload_n 3, 1), (113, .iaload, 1), (114, .iconst 1, 1), (115, .iadd, 1), (116, .iastore, 1), (117, .aload_n 0, 1), (118, .iconst 2, 1), (119, .iload_n 3, 1), (120, .imul, 1), (121, .iload 4, 2), (123, .invokevirtual 83, 3), (126, .aload_n 0, 1), (127, .iconst 2, 1), (128, .iload_n 3, 1), (129, .imul, 1), (130, .iconst 1, 1), (131, .iadd, 1), (132, .iload 5, 2), (134, .invokevirtual 83, 3), (137, .iconst 0, 1), (138, .ireturn, 1)], 7, 2, 33)
def cm17 : Me := ("read", "(I)I", 1, 1, [(0, .aload_n 0, 1), (1, .iload_n 1, 1), (2, .invokevirtual 76, 3), (5, .ifCond .eq 9, 3), (8, .iload_n 1, 1), (9, .iconst 1, 1), (10, .iand, 1), (11, .ifCond .eq 5, 3), (14, .iconst (-1), 1), (15, .ireturn, 1), (16, .iload_n 1, 1), (17, .iconst 1, 1), (18, .ishr, 1), (19, .istore_n 2, 1), (20, .aload_n 0, 1), (21, .getfield 23, 3), (24, .iload_n 2, 1), (25, .iaload, 1), (26, .ifCond .ne 18, 3), (29, .aload_n 0, 1), (30, .getfield 13, 3), (33, .iload_n 2, 1), (34, .baload, 1), (35, .ifCond .eq 6, 3), (38, .bipush (-2), 2), (40, .ireturn, 1), (41, .bipush (-3), 2), (43, .ireturn, 1), (44, .aload_n 0, 1), (45, .iconst 2, 1), (46, .iload_n 2, 1), (47, .imul, 1), (48, .invokevirtual 61, 3), (51, .istore_n 3, 1), (52, .aload_n 0, 1), (53, .iconst 2, 1), (54, .iload_n 2, 1), (55, .imul, 1), (56, .iconst 1, 1), (57, .iadd, 1), (58, .invokevirtual 61, 3), (61, .istore 4, 2), (63, .aload_n 0, 1), (64, .getfield 16, 3), (67, .iload_n 2, 1), (68, .bipush 16, 2), (70, .imul, 1), (71, .aload_n 0, 1), (72, .getfield 20, 3), (75, .iload_n 2, 1), (76, .iaload, 1), (77, .bipush 15, 2), (79, .iand, 1), (80, .iadd, 1), (81, .iaload, 1), (82, .istore 5, 2), (84, .aload_n 0, 1), (85, .getfield 20, 3), (88, .iload_n 2, 1), (89, .aload_n 0, 1), (90, .getfield 20, 3), (93, .iload_n 2, 1), (94, .iaload, 1), (95, .iconst 1, 1), (96, .iadd, 1), (97, .bipush 15, 2), (99, .iand, 1), (100, .iastore, 1), (101, .aload_n 0, 1), (102, .getfield 23, 3), (105, .iload_n 2, 1), (106, .aload_n 0, 1), (107, .getfield 23, 3), (110, .iload_n 2, 1), (111, .iaload, 1), (112, .iconst 1, 1), (113, .isub, 1), (114, .iastore, 1), (115, .aload_n 0, 1), (116, .iconst 2, 1), (117, .iload_n 2, 1), (118, .imul, 1), (119, .iload_n 3, 1), (120, .invokevirtual 83, 3), (123, .aload_n 0, 1), (124, .iconst 2, 1), (125, .iload_n 2, 1), (126, .imul, 1), (127, .iconst 1, 1), (128, .iadd, 1), (129, .iload 4, 2), (131, .invokevirtual 83, 3), (134, .iload 5, 2), (136, .ireturn, 1)], 6, 2, 33)
def cm18 : Me := ("closeFd", "(I)I", 1, 1, [(0, .aload_n 0, 1), (1, .iload_n 1, 1), (2, .invokevirtual 76, 3), (5, .ifCond .ne 5, 3), (8, .iconst (-1), 1), (9, .ireturn, 1), (10, .iload_n 1, 1), (11, .iconst 1, 1), (12, .ishr, 1), (13, .istore_n 2, 1), (14, .iload_n 1, 1), (15, .iconst 1, 1), (16, .ixor, 1), (17, .istore_n 3, 1), (18, .iconst 0, 1), (19, .istore 4, 2), (21, .aload_n 0, 1), (22, .iload_n 3, 1), (23, .invokevirtual 76, 3), (26, .ifCond .eq 10, 3), (29, .aload_n 0, 1), (30, .iload_n 3, 1), (31, .invokevirtual 61, 3), (34, .istore 4, 2), (36, .iload_n 1, 1), (37, .iconst 1, 1), (38, .iand, 1), (39, .ifCond .ne 13, 3), (42, .aload_n 0, 1), (43, .getfield 7, 3), (46, .iload_n 2, 1), (47, .iconst 0, 1), (48, .bastore, 1), (49, .goto 10, 3), (52, .aload_n 0, 1), (53, .getfield 13, 3), (56, .iload_n 2, 1), (57, .iconst 0, 1), (58, .bastore, 1), (59, .aload_n 0, 1), (60, .iload_n 1, 1), (61, .invokevirtual 87, 3), (64, .aload_n 0, 1), (65, .iload_n 3, 1), (66, .iload 4, 2), (68, .invokevirtual 83, 3), (71, .iconst 0, 1), (72, .ireturn, 1)], 5, 2, 33)
def cm19 : Me := ("ctlAdd", "(III)I", 3, 1, [(0, .aload_n 0, 1), (1, .iload_n 1, 1), (2, .invokevirtual 80, 3), (5, .ifCond .eq 11, 3), (8, .aload_n 0, 1), (9, .iload_n 3, 1), (10, .invokevirtual 90, 3), (13, .ifCond .ne 6, 3), (16, .bipush (-6), 2), (18, .ireturn, 1), (19, .aload_n 0, 1), (20, .iload_n 2, 1), (21, .invokevirtual 76, 3), (24, .ifCond .ne 5, 3), (27, .iconst (-1), 1), (28, .ireturn, 1), (29, .aload_n 0, 1), (30, .iload_n 1, 1), (31, .iload_n 2, 1), (32, .invokevirtual 68, 3), (35, .istore 4, 2), (37, .aload_n 0, 1), (38, .getfield 26, 3), (41, .iload 4, 2), (43, .baload, 1), (44, .ifCond .eq 6, 3), (47, .bipush (-5), 2), (49, .ireturn, 1), (50, .aload_n 0, 1), (51, .getfield 26, 3), (54, .iload 4, 2), (56, .iconst 1, 1), (57, .bastore, 1), (58, .aload_n 0, 1), (59, .iload 4, 2), (61, .iload_n 2, 1), (62, .iload_n 3, 1), (63, .invokevirtual 93, 3), (66, .iconst 0, 1), (67, .ireturn, 1)], 5, 2, 32)
def cm20 : Me := ("ctlMod", "(III)I", 3, 1, [(0, .aload_n 0, 1), (1, .iload_n 1, 1), (2, .invokevirtual 80, 3), (5, .ifCond .eq 11, 3), (8, .aload_n 0, 1), (9, .iload_n 3, 1), (10, .invokevirtual 90, 3), (13, .ifCond .ne 6, 3), (16, .bipush (-6), 2), (18, .ireturn, 1), (19, .aload_n 0, 1), (20, .iload_n 2, 1), (21, .invokevirtual 76, 3), (24, .ifCond .ne 5, 3), (27, .iconst (-1), 1), (28, .ireturn, 1), (29, .aload_n 0, 1), (30, .iload_n 1, 1), (31, .iload_n 2, 1), (32, .invokevirtual 68, 3), (35, .istore 4, 2), (37, .aload_n 0, 1), (38, .getfield 26, 3), (41, .iload 4, 2), (43, .baload, 1), (44, .ifCond .ne 6, 3), (47, .bipush (-7), 2), (49, .ireturn, 1), (50, .aload_n 0, 1), (51, .iload 4, 2), (53, .iload_n 2, 1), (54, .iload_n 3, 1), (55, .invokevirtual 93, 3), (58, .iconst 0, 1), (59, .ireturn, 1)], 5, 2, 32)
def cm21 : Me := ("ctlDel", "(II)I", 2, 1, [(0, .aload_n 0, 1), (1, .iload_n 1, 1), (2, .invokevirtual 80, 3), (5, .ifCond .ne 6, 3), (8, .bipush (-6), 2), (10, .ireturn, 1), (11, .aload_n 0, 1), (12, .iload_n 2, 1), (13, .invokevirtual 76, 3), (16, .ifCond .ne 5, 3), (19, .iconst (-1), 1), (20, .ireturn, 1), (21, .aload_n 0, 1), (22, .iload_n 1, 1), (23, .iload_n 2, 1), (24, .invokevirtual 68, 3), (27, .istore_n 3, 1), (28, .aload_n 0, 1), (29, .getfield 26, 3), (32, .iload_n 3, 1), (33, .baload, 1), (34, .ifCond .ne 6, 3), (37, .bipush (-7), 2), (39, .ireturn, 1), (40, .aload_n 0, 1), (41, .iload_n 3, 1), (42, .invokevirtual 72, 3), (45, .iconst 0, 1), (46, .ireturn, 1)], 4, 1, 14)
def cm22 : Me := ("wait", "(II)I", 2, 1, [(0, .aload_n 0, 1), (1, .iload_n 1, 1), (2, .invokevirtual 80, 3), (5, .ifCond .eq 8, 3), (8, .iload_n 2, 1), (9, .iconst 1, 1), (10, .if_icmp .ge 6, 3), (13, .bipush (-6), 2), (15, .ireturn, 1), (16, .iload_n 2, 1), (17, .bipush 16, 2), (19, .if_icmp .le 8, 3), (22, .bipush 16, 2), (24, .goto 4, 3), (27, .iload_n 2, 1), (28, .istore_n 3, 1), (29, .iconst 0, 1), (30, .istore 4, 2), (32, .iconst 2, 1), (33, .aload_n 0, 1), (34, .getfield 48, 3), (37, .imul, 1), (38, .istore 5, 2), (40, .iconst 0, 1), (41, .istore 6, 2), (43, .iload 6, 2), (45, .iload 5, 2), (47, .if_icmp .ge 82, 3), (50, .iload 4, 2), (52, .iload_n 3, 1), (53, .if_icmp .ge 76, 3), (56, .aload_n 0, 1), (57, .iload_n 1, 1), (58, .iload 6, 2), (60, .invokevirtual 68, 3), (63, .istore 7, 2), (65, .aload_n 0, 1), (66, .getfield 26, 3), (69, .iload 7, 2), (71, .baload, 1), (72, .ifCond .ne 6, 3), (75, .goto 48, 3), (78, .aload_n 0, 1), (79, .iload 7, 2), (81, .iload 6, 2), (83, .invokevirtual 97, 3), (86, .istore 8, 2), (88, .iload 8, 2), (90, .ifCond .ne 6, 3), (93, .goto 30, 3), (96, .aload_n 0, 1), (97, .getfield 38, 3), (100, .iload 4, 2), (102, .iload 6, 2), (104, .iastore, 1), (105, .aload_n 0, 1), (106, .getfield 41, 3), (109, .iload 4, 2), (111, .iload 8, 2), (113, .iastore, 1), (114, .iinc 4 1, 3), (117, .aload_n 0, 1), (118, .iload 7, 2), (120, .invokevirtual 100, 3), (123, .iinc 6 1, 3), (126, .goto (-83), 3), (129, .aload_n 0, 1), (130, .iload 4, 2), (132, .putfield 58, 3), (135, .iload 4, 2), (137, .ireturn, 1)], 9, 2, 29)
def cm23 : Me := ("consume", "(I)V", 1, 0, [(0, .aload_n 0, 1), (1, .getfield 29, 3), (4, .iload_n 1, 1), (5, .iaload, 1), (6, .bipush 32, 2), (8, .iand, 1), (9, .ifCond .eq 20, 3), (12, .aload_n 0, 1), (13, .getfield 32, 3), (16, .iload_n 1, 1), (17, .iconst 0, 1), (18, .bastore, 1), (19, .aload_n 0, 1), (20, .getfield 35, 3), (23, .iload_n 1, 1), (24, .iconst 0, 1), (25, .iastore, 1), (26, .goto 22, 3), (29, .aload_n 0, 1), (30, .getfield 29, 3), (33, .iload_n 1, 1), (34, .iaload, 1), (35, .bipush 16, 2), (37, .iand, 1), (38, .ifCond .eq 10, 3), (41, .aload_n 0, 1), (42, .getfield 35, 3), (45, .iload_n 1, 1), (46, .iconst 0, 1), (47, .iastore, 1), (48, .return_, 1)], 2, 0, 0)
def cm24 : Me := ("eventFd", "(I)I", 1, 1, [(0, .iload_n 1, 1), (1, .ifCond .lt 11, 3), (4, .iload_n 1, 1), (5, .aload_n 0, 1), (6, .getfield 58, 3), (9, .if_icmp .lt 5, 3), (12, .iconst (-1), 1), (13, .ireturn, 1), (14, .aload_n 0, 1), (15, .getfield 38, 3), (18, .iload_n 1, 1), (19, .iaload, 1), (20, .ireturn, 1)], 2, 0, 0)
def cm25 : Me := ("eventMask", "(I)I", 1, 1, [(0, .iload_n 1, 1), (1, .ifCond .lt 11, 3), (4, .iload_n 1, 1), (5, .aload_n 0, 1), (6, .getfield 58, 3), (9, .if_icmp .lt 5, 3), (12, .iconst 0, 1), (13, .ireturn, 1), (14, .aload_n 0, 1), (15, .getfield 41, 3), (18, .iload_n 1, 1), (19, .iaload, 1), (20, .ireturn, 1)], 2, 0, 0)
def cm27 : Me := ("fdReadiness", "(I)I", 1, 1, [(0, .aload_n 0, 1), (1, .iload_n 1, 1), (2, .invokevirtual 76, 3), (5, .ifCond .ne 5, 3), (8, .iconst (-1), 1), (9, .ireturn, 1), (10, .aload_n 0, 1), (11, .iload_n 1, 1), (12, .invokevirtual 61, 3), (15, .ireturn, 1)], 2, 1, 15)
def cm28 : Me := ("regInfo", "(II)I", 2, 1, [(0, .aload_n 0, 1), (1, .iload_n 1, 1), (2, .iload_n 2, 1), (3, .invokevirtual 103, 3), (6, .istore_n 3, 1), (7, .iload_n 3, 1), (8, .ifCond .ge 5, 3), (11, .iconst (-1), 1), (12, .ireturn, 1), (13, .aload_n 0, 1), (14, .getfield 29, 3), (17, .iload_n 3, 1), (18, .iaload, 1), (19, .istore 4, 2), (21, .aload_n 0, 1), (22, .getfield 32, 3), (25, .iload_n 3, 1), (26, .baload, 1), (27, .ifCond .ne 10, 3), (30, .iload 4, 2), (32, .bipush 64, 2), (34, .ior, 1), (35, .istore 4, 2), (37, .iload 4, 2), (39, .ireturn, 1)], 5, 2, 29)
def cm29 : Me := ("peekReady", "(II)I", 2, 1, [(0, .aload_n 0, 1), (1, .iload_n 1, 1), (2, .iload_n 2, 1), (3, .invokevirtual 103, 3), (6, .istore_n 3, 1), (7, .iload_n 3, 1), (8, .ifCond .ge 5, 3), (11, .iconst (-1), 1), (12, .ireturn, 1), (13, .aload_n 0, 1), (14, .iload_n 3, 1), (15, .iload_n 2, 1), (16, .invokevirtual 97, 3), (19, .ireturn, 1)], 4, 2, 29)
def cm30 : Me := ("readyCount", "(I)I", 1, 1, [(0, .aload_n 0, 1), (1, .iload_n 1, 1), (2, .invokevirtual 80, 3), (5, .ifCond .ne 5, 3), (8, .iconst (-1), 1), (9, .ireturn, 1), (10, .iconst 0, 1), (11, .istore_n 2, 1), (12, .iconst 2, 1), (13, .aload_n 0, 1), (14, .getfield 48, 3), (17, .imul, 1), (18, .istore_n 3, 1), (19, .iconst 0, 1), (20, .istore 4, 2), (22, .iload 4, 2), (24, .iload_n 3, 1), (25, .if_icmp .ge 42, 3), (28, .aload_n 0, 1), (29, .iload_n 1, 1), (30, .iload 4, 2), (32, .invokevirtual 68, 3), (35, .istore 5, 2), (37, .aload_n 0, 1), (38, .getfield 26, 3), (41, .iload 5, 2), (43, .baload, 1), (44, .ifCond .eq 17, 3), (47, .aload_n 0, 1), (48, .iload 5, 2), (50, .iload 4, 2), (52, .invokevirtual 97, 3), (55, .ifCond .eq 6, 3), (58, .iinc 2 1, 3), (61, .iinc 4 1, 3), (64, .goto (-42), 3), (67, .iload_n 2, 1), (68, .ireturn, 1)], 6, 2, 29)
def PP : Cl := ("ReadinessPoller", [(17, ("nPipes", "I", 0, false)), (18, ("cap", "I", 0, false)), (19, ("nPolls", "I", 0, false)), (20, ("readOpen", "[Z", 3, false)), (21, ("writeOpen", "[Z", 4, false)), (22, ("buf", "[I", 5, false)), (23, ("head", "[I", 6, false)), (24, ("count", "[I", 7, false)), (25, ("regged", "[Z", 8, false)), (26, ("word", "[I", 9, false)), (27, ("enabled", "[Z", 10, false)), (28, ("pend", "[I", 11, false)), (29, ("resFd", "[I", 12, false)), (30, ("resMask", "[I", 13, false)), (31, ("resN", "I", 0, false))], [(1, 8), (1, 8), (0, 128), (0, 8), (0, 8), (1, 64), (0, 64), (1, 64), (0, 64), (0, 16), (0, 16)], [(7, 20), (13, 21), (16, 22), (20, 23), (23, 24), (26, 25), (29, 26), (32, 27), (35, 28), (38, 29), (41, 30), (48, 17), (52, 18), (55, 19), (58, 31)], [(44, 2), (61, 4), (65, 5), (68, 8), (72, 11), (76, 3), (80, 6), (83, 13), (87, 12), (90, 7), (93, 10), (97, 9), (100, 23), (103, 14)], [], [(0, cm0), (2, cm2), (3, cm3), (4, cm4), (5, cm5), (6, cm6), (7, cm7), (8, cm8), (9, cm9), (10, cm10), (11, cm11), (12, cm12), (13, cm13), (14, cm14), (15, cm15), (16, cm16), (17, cm17), (18, cm18), (19, cm19), (20, cm20), (21, cm21), (22, cm22), (23, cm23), (24, cm24), (25, cm25), (27, cm27), (28, cm28), (29, cm29), (30, cm30)], 1)
def lm0 : Me := ("law", "([I)Z", 1, 2, [(0, .new 8, 3), (3, .dup, 1), (4, .iconst 2, 1), (5, .iconst 1, 1), (6, .aload_n 0, 1), (7, .iconst 0, 1), (8, .invokestatic 23, 3), (11, .iconst 4, 1), (12, .invokestatic 27, 3), (15, .iadd, 1), (16, .iconst 2, 1), (17, .invokespecial 31, 3), (20, .astore_n 1, 1), (21, .lconst 0, 1), (22, .lstore_n 2, 1), (23, .iconst 1, 1), (24, .istore 4, 2), (26, .iload 4, 2), (28, .aload_n 0, 1), (29, .arraylength, 1), (30, .if_icmp .ge 702, 3), (33, .aload_n 0, 1), (34, .iload 4, 2), (36, .invokestatic 23, 3), (39, .bipush 11, 2), (41, .invokestatic 27, 3), (44, .istore 5, 2), (46, .aload_n 0, 1), (47, .iload 4, 2), (49, .iconst 1, 1), (50, .iadd, 1), (51, .invokestatic 23, 3), (54, .istore 6, 2), (56, .aload_n 0, 1), (57, .iload 4, 2), (59, .iconst 2, 1), (60, .iadd, 1), (61, .invokestatic 23, 3), (64, .istore 7, 2), (66, .iload 6, 2), (68, .iconst 1, 1), (69, .iand, 1), (70, .istore 8, 2), (72, .iload 6, 2), (74, .iconst 1, 1), (75, .iushr, 1), (76, .iconst 3, 1), (77, .iand, 1), (78, .istore 9, 2), (80, .aload_n 1, 1), (81, .invokestatic 34, 3), (84, .istore 10, 2), (86, .iconst 0, 1), (87, .istore 11, 2), (89, .lconst 0, 1), (90, .lstore 12, 2), (92, .iconst 0, 1), (93, .istore 14, 2), (95, .iconst 0, 1), (96, .istore 15, 2), (98, .iload 5, 2), (100, .ifCond .ne 11, 3), (103, .aload_n 1, 1), (104, .invokevirtual 38, 3), (107, .pop, 1), (108, .goto 293, 3), (111, .iload 5, 2), (113, .iconst 2, 1), (114, .if_icmp .gt 36, 3), (117, .aload_n 1, 1), (118, .iload 6, 2), (120, .bipush 8, 2), (122, .iand, 1), (123, .ifCond .eq 10, 3), (126, .iload 6, 2), (128, .iconst 3, 1), (129, .iand, 1), (130, .goto 11, 3), (133, .iconst 2, 1), (134, .iload 6, 2), (136, .iconst 1, 1), (137, .iand, 1), (138, .imul, 1), (139, .iconst 1, 1), (140, .iadd, 1), (141, .iload 7, 2), (143, .invokevirtual 42, 3), (146, .pop, 1), (147, .goto 254, 3), (150, .iload 5, 2), (152, .iconst 4, 1), (153, .if_icmp .gt 32, 3), (156, .aload_n 1, 1), (157, .iload 6, 2), (159, .bipush 8, 2), (161, .iand, 1), (162, .ifCond .eq 10, 3), (165, .iload 6, 2), (167, .iconst 3, 1), (168, .iand, 1), (169, .goto 9, 3), (172, .iconst 2, 1), (173, .iload 6, 2), (175, .iconst 1, 1), (176, .iand, 1), (177, .imul, 1), (178, .invokevirtual 45, 3), (181, .pop, 1), (182, .goto 219, 3), (185, .iload 5, 2), (187, .iconst 5, 1), (188, .if_icmp .ne 15, 3), (191, .aload_n 1, 1), (192, .iload 6, 2), (194, .iconst 3, 1), (195, .iand, 1), (196, .invokevirtual 48, 3), (199, .pop, 1), (200, .goto 201, 3), (203, .iload 5, 2), (205, .bipush 6, 2), (207, .if_icmp .eq 10, 3), (210, .iload 5, 2), (212, .bipush 7, 2), (214, .if_icmp .ne 68, 3), (217, .iload 7, 2), (219, .bipush 32, 2), (221, .iand, 1), (222, .ifCond .eq 11, 3), (225, .iload 7, 2), (227, .bipush 63, 2), (229, .iand, 1), (230, .goto 15, 3), (233, .iload 7, 2), (235, .iconst 3, 1), (236, .iand, 1), (237, .iload 7, 2), (239, .bipush 12, 2), (241, .iand, 1), (242, .iconst 2, 1), (243, .ishl, 1), (244, .ior, 1), (245, .istore 16, 2), (247, .iload 5, 2), (249, .bipush 6, 2), (251, .if_icmp .ne 16, 3), (254, .aload_n 1, 1), (255, .iload 8, 2), (257, .iload 9, 2), (259, .iload 16, 2), (261, .invokevirtual 51, 3), (264, .goto 13, 3), (267, .aload_n 1, 1), (268, .iload 8, 2), (270, .iload 9, 2), (272, .iload 16, 2), (274, .invokevirtual 55, 3), (277, .istore 11, 2), (279, .goto 122, 3), (282, .iload 5, 2), (284, .bipush 8, 2), (286, .if_icmp .ne 15, 3), (289, .aload_n 1, 1), (290, .iload 8, 2), (292, .iload 9, 2), (294, .invokevirtual 58, 3), (297, .pop, 1), (298, .goto 103, 3), (301, .iload 7, 2), (303, .bipush 6, 2), (305, .invokestatic 27, 3), (308, .iconst 1, 1), (309, .isub, 1), (310, .istore 15, 2), (312, .iconst 0, 1), (313, .istore 16, 2), (315, .iload 16, 2), (317, .iconst 4, 1), (318, .if_icmp .ge 73, 3), (321, .aload_n 1, 1), (322, .iload 8, 2), (324, .iload 16, 2), (326, .invokevirtual 61, 3), (329, .aload_n 1, 1), (330, .iload 16, 2), (332, .invokestatic 13, 3), (335, .lload_n 2, 1), (336, .iload 8, 2), (338, .iconst 4, 1), (339, .imul, 1), (340, .iload 16, 2), (342, .iadd, 1), (343, .invokestatic 64, 3), (346, .invokestatic 68, 3), (349, .istore 17, 2), (351, .iload 17, 2), (353, .ifCond .eq 32, 3), (356, .iload 14, 2), (358, .iload 15, 2), (360, .if_icmp .ge 25, 3), (363, .lload 12, 2), (365, .iload 16, 2), (367, .iload 17, 2), (369, .iconst 2, 1), (370, .ishl, 1), (371, .ior, 1), (372, .i2l, 1), (373, .bipush 6, 2), (375, .iload 14, 2), (377, .imul, 1), (378, .lshl, 1), (379, .lor, 1), (380, .lstore 12, 2), (382, .iinc 14 1, 3), (385, .iinc 16 1, 3), (388, .goto (-73), 3), (391, .aload_n 1, 1), (392, .iload 8, 2), (394, .iload 15, 2), (396, .invokevirtual 71, 3), (399, .istore 11, 2), (401, .aload_n 1, 1), (402, .invokestatic 34, 3), (405, .istore 16, 2), (407, .iconst 0, 1), (408, .istore 17, 2), (410, .iload 17, 2), (412, .bipush 8, 2), (414, .if_icmp .ge 63, 3), (417, .iload 17, 2), (419, .iconst 3, 1), (420, .iand, 1), (421, .istore 18, 2), (423, .iload 10, 2), (425, .iconst 4, 1), (426, .iload 18, 2), (428, .imul, 1), (429, .iushr, 1), (430, .bipush 15, 2), (432, .iand, 1), (433, .istore 19, 2), (435, .iload 16, 2), (437, .iconst 4, 1), (438, .iload 18, 2), (440, .imul, 1), (441, .iushr, 1), (442, .bipush 15, 2), (444, .iand, 1), (445, .istore 20, 2), (447, .lload_n 2, 1), (448, .iload 17, 2), (450, .lload_n 2, 1), (451, .iload 17, 2), (453, .invokestatic 64, 3), (456, .iload 20, 2), (458, .iand, 1), (459, .iload 20, 2), (461, .iload 19, 2), (463, .iconst (-1), 1), (464, .ixor, 1), (465, .iand, 1), (466, .ior, 1), (467, .invokestatic 74, 3), (470, .lstore_n 2, 1), (471, .iinc 17 1, 3), (474, .goto (-64), 3), (477, .iload 5, 2), (479, .bipush 6, 2), (481, .if_icmp .eq 10, 3), (484, .iload 5, 2), (486, .bipush 7, 2), (488, .if_icmp .ne 30, 3), (491, .iload 11, 2), (493, .ifCond .ne 25, 3), (496, .lload_n 2, 1), (497, .iload 8, 2), (499, .iconst 4, 1), (500, .imul, 1), (501, .iload 9, 2), (503, .iadd, 1), (504, .iload 16, 2), (506, .iconst 4, 1), (507, .iload 9, 2), (509, .imul, 1), (510, .iushr, 1), (511, .bipush 15, 2), (513, .iand, 1), (514, .invokestatic 74, 3), (517, .lstore_n 2, 1), (518, .iload 5, 2), (520, .bipush 9, 2), (522, .if_icmp .lt 92, 3), (525, .iload 15, 2), (527, .iconst 1, 1), (528, .if_icmp .lt 86, 3), (531, .iload 11, 2), (533, .iload 14, 2), (535, .if_icmp .eq 5, 3), (538, .iconst 0, 1), (539, .ireturn, 1), (540, .iconst 0, 1), (541, .istore 17, 2), (543, .iload 17, 2), (545, .iload 14, 2), (547, .if_icmp .ge 67, 3), (550, .lload 12, 2), (552, .bipush 6, 2), (554, .iload 17, 2), (556, .imul, 1), (557, .lushr, 1), (558, .ldc2_w 78, 3), (561, .land, 1), (562, .l2i, 1), (563, .istore 18, 2), (565, .aload_n 1, 1), (566, .iload 17, 2), (568, .invokevirtual 80, 3), (571, .iload 18, 2), (573, .iconst 3, 1), (574, .iand, 1), (575, .if_icmp .ne 16, 3), (578, .aload_n 1, 1), (579, .iload 17, 2), (581, .invokevirtual 83, 3), (584, .iload 18, 2), (586, .iconst 2, 1), (587, .iushr, 1), (588, .if_icmp .eq 5, 3), (591, .iconst 0, 1), (592, .ireturn, 1), (593, .lload_n 2, 1), (594, .iload 8, 2), (596, .iconst 4, 1), (597, .imul, 1), (598, .iload 18, 2), (600, .iconst 3, 1), (601, .iand, 1), (602, .iadd, 1), (603, .iconst 0, 1), (604, .invokestatic 74, 3), (607, .lstore_n 2, 1), (608, .iinc 17 1, 3), (611, .goto (-68), 3), (614, .iconst 0, 1), (615, .istore 17, 2), (617, .iload 17, 2), (619, .iconst 2, 1), (620, .if_icmp .ge 106, 3), (623, .iconst 0, 1), (624, .istore 18, 2), (626, .iconst 0, 1), (627, .istore 19, 2), (629, .iload 19, 2), (631, .iconst 4, 1), (632, .if_icmp .ge 75, 3), (635, .aload_n 1, 1), (636, .iload 17, 2), (638, .iload 19, 2), (640, .invokevirtual 61, 3), (643, .istore 20, 2), (645, .iload 20, 2), (647, .aload_n 1, 1), (648, .iload 19, 2), (650, .invokestatic 13, 3), (653, .lload_n 2, 1), (654, .iload 17, 2), (656, .iconst 4, 1), (657, .imul, 1), (658, .iload 19, 2), (660, .iadd, 1), (661, .invokestatic 64, 3), (664, .invokestatic 68, 3), (667, .istore 21, 2), (669, .aload_n 1, 1), (670, .iload 17, 2), (672, .iload 19, 2), (674, .invokevirtual 86, 3), (677, .iload 20, 2), (679, .ifCond .ge 7, 3), (682, .iconst (-1), 1), (683, .goto 5, 3), (686, .iload 21, 2), (688, .if_icmp .eq 5, 3), (691, .iconst 0, 1), (692, .ireturn, 1), (693, .iload 21, 2), (695, .ifCond .eq 6, 3), (698, .iinc 18 1, 3), (701, .iinc 19 1, 3), (704, .goto (-75), 3), (707, .aload_n 1, 1), (708, .iload 17, 2), (710, .invokevirtual 89, 3), (713, .iload 18, 2), (715, .if_icmp .eq 5, 3), (718, .iconst 0, 1), (719, .ireturn, 1), (720, .iinc 17 1, 3), (723, .goto (-106), 3), (726, .iinc 4 3, 3), (729, .goto (-703), 3), (732, .iconst 1, 1), (733, .ireturn, 1)], 22, 7, 160)
def lm2 : Me := ("cell", "([II)I", 2, 1, [(0, .iload_n 1, 1), (1, .aload_n 0, 1), (2, .arraylength, 1), (3, .if_icmp .ge 9, 3), (6, .aload_n 0, 1), (7, .iload_n 1, 1), (8, .iaload, 1), (9, .goto 4, 3), (12, .iconst 0, 1), (13, .ireturn, 1)], 2, 0, 0)
def lm3 : Me := ("pos", "(II)I", 2, 1, [(0, .iload_n 0, 1), (1, .iload_n 1, 1), (2, .irem, 1), (3, .istore_n 2, 1), (4, .iload_n 2, 1), (5, .ifCond .ge 9, 3), (8, .iload_n 2, 1), (9, .iload_n 1, 1), (10, .iadd, 1), (11, .goto 4, 3), (14, .iload_n 2, 1), (15, .ireturn, 1)], 3, 0, 0)
def lm4 : Me := ("rd", "(LReadinessPoller;I)I", 2, 1, [(0, .aload_n 0, 1), (1, .iload_n 1, 1), (2, .invokevirtual 7, 3), (5, .istore_n 2, 1), (6, .iload_n 2, 1), (7, .ifCond .ge 7, 3), (10, .iconst 0, 1), (11, .goto 7, 3), (14, .iload_n 2, 1), (15, .bipush 15, 2), (17, .iand, 1), (18, .ireturn, 1)], 3, 2, 28)
def lm5 : Me := ("readyAll", "(LReadinessPoller;)I", 1, 1, [(0, .iconst 0, 1), (1, .istore_n 1, 1), (2, .iconst 0, 1), (3, .istore_n 2, 1), (4, .iload_n 2, 1), (5, .iconst 4, 1), (6, .if_icmp .ge 21, 3), (9, .iload_n 1, 1), (10, .aload_n 0, 1), (11, .iload_n 2, 1), (12, .invokestatic 13, 3), (15, .iconst 4, 1), (16, .iload_n 2, 1), (17, .imul, 1), (18, .ishl, 1), (19, .ior, 1), (20, .istore_n 1, 1), (21, .iinc 2 1, 3), (24, .goto (-20), 3), (27, .iload_n 1, 1), (28, .ireturn, 1)], 3, 3, 43)
def lm6 : Me := ("nib", "(JI)I", 2, 1, [(0, .lload_n 0, 1), (1, .iconst 4, 1), (2, .iload_n 2, 1), (3, .imul, 1), (4, .lushr, 1), (5, .ldc2_w 19, 3), (8, .land, 1), (9, .l2i, 1), (10, .ireturn, 1)], 3, 0, 0)
def lm7 : Me := ("setNib", "(JII)J", 3, 3, [(0, .lload_n 0, 1), (1, .ldc2_w 19, 3), (4, .iconst 4, 1), (5, .iload_n 2, 1), (6, .imul, 1), (7, .lshl, 1), (8, .ldc2_w 21, 3), (11, .lxor, 1), (12, .land, 1), (13, .iload_n 3, 1), (14, .bipush 15, 2), (16, .iand, 1), (17, .i2l, 1), (18, .iconst 4, 1), (19, .iload_n 2, 1), (20, .imul, 1), (21, .lshl, 1), (22, .lor, 1), (23, .lreturn, 1)], 4, 0, 0)
def lm8 : Me := ("expect", "(III)I", 3, 1, [(0, .iload_n 0, 1), (1, .ifCond .lt 10, 3), (4, .iload_n 0, 1), (5, .bipush 64, 2), (7, .iand, 1), (8, .ifCond .eq 5, 3), (11, .iconst 0, 1), (12, .ireturn, 1), (13, .iload_n 1, 1), (14, .iload_n 0, 1), (15, .iconst 3, 1), (16, .iand, 1), (17, .bipush 12, 2), (19, .ior, 1), (20, .iand, 1), (21, .istore_n 3, 1), (22, .iload_n 0, 1), (23, .bipush 16, 2), (25, .iand, 1), (26, .ifCond .eq 7, 3), (29, .iload_n 3, 1), (30, .iload_n 2, 1), (31, .iand, 1), (32, .istore_n 3, 1), (33, .iload_n 3, 1), (34, .ireturn, 1)], 4, 0, 0)
def QQ : Lw := ("ReadinessPollerOwnLaw", [(13, 4), (23, 2), (27, 3), (34, 5), (64, 6), (68, 8), (74, 7)], [(7, 27), (38, 15), (42, 16), (45, 17), (48, 18), (51, 19), (55, 20), (58, 21), (61, 28), (71, 22), (80, 24), (83, 25), (86, 29), (89, 30)], 31, 8, 15, [(19, .long (15 : Int64)), (21, .long (-1 : Int64)), (78, .long (63 : Int64))], [(0, lm0), (2, lm2), (3, lm3), (4, lm4), (5, lm5), (6, lm6), (7, lm7), (8, lm8)], 32, 1024)
set_option maxRecDepth 100000
set_option maxHeartbeats 1000000
theorem dk_l2 : chk method_2_code lm2.cd = true := by decide +kernel
theorem dk_l3 : chk method_3_code lm3.cd = true := by decide +kernel
theorem dk_c0 : chk prog_1_method_1_code cm0.cd = true := by decide +kernel
theorem dk_c2 : chk prog_1_method_2_code cm2.cd = true := by decide +kernel
theorem dk_l5 : chk method_5_code lm5.cd = true := by decide +kernel
theorem dk_l4 : chk method_4_code lm4.cd = true := by decide +kernel
theorem dk_c27 : chk prog_1_method_27_code cm27.cd = true := by decide +kernel
theorem dk_c3 : chk prog_1_method_3_code cm3.cd = true := by decide +kernel
theorem dk_c16 : chk prog_1_method_16_code cm16.cd = true := by decide +kernel
theorem dk_l6 : chk method_6_code lm6.cd = true := by decide +kernel
theorem dk_l7 : chk method_7_code lm7.cd = true := by decide +kernel
theorem dk_c28 : chk prog_1_method_28_code cm28.cd = true := by decide +kernel
theorem dk_c14 : chk prog_1_method_14_code cm14.cd = true := by decide +kernel
theorem dk_c6 : chk prog_1_method_6_code cm6.cd = true := by decide +kernel
theorem dk_l8 : chk method_8_code lm8.cd = true := by decide +kernel
theorem dk_c29 : chk prog_1_method_29_code cm29.cd = true := by decide +kernel
theorem dk_c30 : chk prog_1_method_30_code cm30.cd = true := by decide +kernel
theorem dk_c8 : chk prog_1_method_8_code cm8.cd = true := by decide +kernel
theorem dk_c17 : chk prog_1_method_17_code cm17.cd = true := by decide +kernel
theorem dk_c15 : chk prog_1_method_15_code cm15.cd = true := by decide +kernel
theorem dk_c4 : chk prog_1_method_4_code cm4.cd = true := by decide +kernel
theorem dk_c13 : chk prog_1_method_13_code cm13.cd = true := by decide +kernel
theorem dk_c22 : chk prog_1_method_22_code cm22.cd = true := by decide +kernel
theorem dk_c20 : chk prog_1_method_20_code cm20.cd = true := by decide +kernel
theorem dk_c7 : chk prog_1_method_7_code cm7.cd = true := by decide +kernel
theorem dk_c18 : chk prog_1_method_18_code cm18.cd = true := by decide +kernel
theorem dk_c19 : chk prog_1_method_19_code cm19.cd = true := by decide +kernel
theorem dk_c21 : chk prog_1_method_21_code cm21.cd = true := by decide +kernel
theorem dk_c10 : chk prog_1_method_10_code cm10.cd = true := by decide +kernel
theorem dk_c5 : chk prog_1_method_5_code cm5.cd = true := by decide +kernel
theorem dk_c9 : chk prog_1_method_9_code cm9.cd = true := by decide +kernel
theorem dk_c23 : chk prog_1_method_23_code cm23.cd = true := by decide +kernel
theorem dk_c24 : chk prog_1_method_24_code cm24.cd = true := by decide +kernel
theorem dk_c25 : chk prog_1_method_25_code cm25.cd = true := by decide +kernel
theorem dk_c12 : chk prog_1_method_12_code cm12.cd = true := by decide +kernel
theorem dk_c11 : chk prog_1_method_11_code cm11.cd = true := by decide +kernel
theorem chk_ap {bytes : ByteArray} : ∀ (x y : Cd), chk bytes x = true → chk bytes y = true → chk bytes (x ++ y) = true
  | [], y, _, h => h
  | (pc, i, n) :: r, y, h, k => by
    simp only [List.cons_append, chk, Bool.and_eq_true] at h ⊢
    exact ⟨h.1, chk_ap r y h.2 k⟩
theorem chk_td {bytes : ByteArray} {l : Cd} (n : Nat) (h : chk bytes (l.take n) = true) (k : chk bytes (l.drop n) = true) : chk bytes l = true := by
  have := chk_ap _ _ h k
  rwa [List.take_append_drop] at this
theorem dk_l0_0 : chk code (lm0.cd.take 80) = true := by decide +kernel
theorem dk_l0_1 : chk code ((lm0.cd.drop 80).take 80) = true := by decide +kernel
theorem dk_l0_2 : chk code (((lm0.cd.drop 80).drop 80).take 80) = true := by decide +kernel
theorem dk_l0_3 : chk code ((((lm0.cd.drop 80).drop 80).drop 80).take 80) = true := by decide +kernel
theorem dk_l0_4 : chk code (((((lm0.cd.drop 80).drop 80).drop 80).drop 80).take 80) = true := by decide +kernel
theorem dk_l0_5 : chk code (((((lm0.cd.drop 80).drop 80).drop 80).drop 80).drop 80) = true := by decide +kernel
theorem dk_l0 : chk code lm0.cd = true := (chk_td 80 dk_l0_0 (chk_td 80 dk_l0_1 (chk_td 80 dk_l0_2 (chk_td 80 dk_l0_3 (chk_td 80 dk_l0_4 dk_l0_5)))))
theorem pk_l2 : parseMethodDescriptor "([II)I" = some ⟨[.array .int, .int], some .int⟩ := by decide +kernel
theorem pk_l3 : parseMethodDescriptor "(II)I" = some ⟨[.int, .int], some .int⟩ := by decide +kernel
theorem pk_c0 : parseMethodDescriptor "(III)V" = some ⟨[.int, .int, .int], none⟩ := by decide +kernel
theorem pk_c2 : parseMethodDescriptor "(III)I" = some ⟨[.int, .int, .int], some .int⟩ := by decide +kernel
theorem pk_l5 : parseMethodDescriptor "(LReadinessPoller;)I" = some ⟨[.object "ReadinessPoller"], some .int⟩ := by decide +kernel
theorem pk_l4 : parseMethodDescriptor "(LReadinessPoller;I)I" = some ⟨[.object "ReadinessPoller", .int], some .int⟩ := by decide +kernel
theorem pk_c27 : parseMethodDescriptor "(I)I" = some ⟨[.int], some .int⟩ := by decide +kernel
theorem pk_c3 : parseMethodDescriptor "(I)Z" = some ⟨[.int], some .boolean⟩ := by decide +kernel
theorem pk_c16 : parseMethodDescriptor "(II)I" = some ⟨[.int, .int], some .int⟩ := by decide +kernel
theorem pk_l6 : parseMethodDescriptor "(JI)I" = some ⟨[.long, .int], some .int⟩ := by decide +kernel
theorem pk_l7 : parseMethodDescriptor "(JII)J" = some ⟨[.long, .int, .int], some .long⟩ := by decide +kernel
theorem pk_c28 : parseMethodDescriptor "(II)I" = some ⟨[.int, .int], some .int⟩ := by decide +kernel
theorem pk_c14 : parseMethodDescriptor "(II)I" = some ⟨[.int, .int], some .int⟩ := by decide +kernel
theorem pk_c6 : parseMethodDescriptor "(I)Z" = some ⟨[.int], some .boolean⟩ := by decide +kernel
theorem pk_l8 : parseMethodDescriptor "(III)I" = some ⟨[.int, .int, .int], some .int⟩ := by decide +kernel
theorem pk_c29 : parseMethodDescriptor "(II)I" = some ⟨[.int, .int], some .int⟩ := by decide +kernel
theorem pk_c30 : parseMethodDescriptor "(I)I" = some ⟨[.int], some .int⟩ := by decide +kernel
theorem pk_c8 : parseMethodDescriptor "(II)I" = some ⟨[.int, .int], some .int⟩ := by decide +kernel
theorem pk_c17 : parseMethodDescriptor "(I)I" = some ⟨[.int], some .int⟩ := by decide +kernel
theorem pk_c15 : parseMethodDescriptor "()I" = some ⟨[], some .int⟩ := by decide +kernel
theorem pk_c4 : parseMethodDescriptor "(I)I" = some ⟨[.int], some .int⟩ := by decide +kernel
theorem pk_c13 : parseMethodDescriptor "(II)V" = some ⟨[.int, .int], none⟩ := by decide +kernel
theorem pk_c22 : parseMethodDescriptor "(II)I" = some ⟨[.int, .int], some .int⟩ := by decide +kernel
theorem pk_c20 : parseMethodDescriptor "(III)I" = some ⟨[.int, .int, .int], some .int⟩ := by decide +kernel
theorem pk_c7 : parseMethodDescriptor "(I)Z" = some ⟨[.int], some .boolean⟩ := by decide +kernel
theorem pk_c18 : parseMethodDescriptor "(I)I" = some ⟨[.int], some .int⟩ := by decide +kernel
theorem pk_c19 : parseMethodDescriptor "(III)I" = some ⟨[.int, .int, .int], some .int⟩ := by decide +kernel
theorem pk_c21 : parseMethodDescriptor "(II)I" = some ⟨[.int, .int], some .int⟩ := by decide +kernel
theorem pk_c10 : parseMethodDescriptor "(III)V" = some ⟨[.int, .int, .int], none⟩ := by decide +kernel
theorem pk_c5 : parseMethodDescriptor "(I)I" = some ⟨[.int], some .int⟩ := by decide +kernel
theorem pk_c9 : parseMethodDescriptor "(II)I" = some ⟨[.int, .int], some .int⟩ := by decide +kernel
theorem pk_c23 : parseMethodDescriptor "(I)V" = some ⟨[.int], none⟩ := by decide +kernel
theorem pk_c24 : parseMethodDescriptor "(I)I" = some ⟨[.int], some .int⟩ := by decide +kernel
theorem pk_c25 : parseMethodDescriptor "(I)I" = some ⟨[.int], some .int⟩ := by decide +kernel
theorem pk_c12 : parseMethodDescriptor "(I)V" = some ⟨[.int], none⟩ := by decide +kernel
theorem pk_c11 : parseMethodDescriptor "(I)V" = some ⟨[.int], none⟩ := by decide +kernel
theorem lkC (Z : State) (a0 : Array Value) (hw : ∀ d ∈ tables_1, d.before a0 Z = true) : LinkC PP Z a0 :=
  ⟨⟨⟨15, (hw _ (List.mem_of_getElem? (i := 1) rfl))⟩, (hw _ (List.mem_of_getElem? (i := 2) rfl))⟩,
   asc_all (⟨by intro z h; obtain rfl : ("readOpen", "[Z", 3, false) = z := Option.some.inj h; exact (hw _ (List.mem_of_getElem? (i := 17) rfl)), by intro z h; obtain rfl : ("writeOpen", "[Z", 4, false) = z := Option.some.inj h; exact (hw _ (List.mem_of_getElem? (i := 19) rfl)), by intro z h; obtain rfl : ("buf", "[I", 5, false) = z := Option.some.inj h; exact (hw _ (List.mem_of_getElem? (i := 22) rfl)), by intro z h; obtain rfl : ("head", "[I", 6, false) = z := Option.some.inj h; exact (hw _ (List.mem_of_getElem? (i := 24) rfl)), by intro z h; obtain rfl : ("count", "[I", 7, false) = z := Option.some.inj h; exact (hw _ (List.mem_of_getElem? (i := 26) rfl)), by intro z h; obtain rfl : ("regged", "[Z", 8, false) = z := Option.some.inj h; exact (hw _ (List.mem_of_getElem? (i := 28) rfl)), by intro z h; obtain rfl : ("word", "[I", 9, false) = z := Option.some.inj h; exact (hw _ (List.mem_of_getElem? (i := 30) rfl)), by intro z h; obtain rfl : ("enabled", "[Z", 10, false) = z := Option.some.inj h; exact (hw _ (List.mem_of_getElem? (i := 32) rfl)), by intro z h; obtain rfl : ("pend", "[I", 11, false) = z := Option.some.inj h; exact (hw _ (List.mem_of_getElem? (i := 34) rfl)), by intro z h; obtain rfl : ("resFd", "[I", 12, false) = z := Option.some.inj h; exact (hw _ (List.mem_of_getElem? (i := 36) rfl)), by intro z h; obtain rfl : ("resMask", "[I", 13, false) = z := Option.some.inj h; exact (hw _ (List.mem_of_getElem? (i := 38) rfl)), by intro z h; obtain rfl : ("nPipes", "I", 0, false) = z := Option.some.inj h; exact (hw _ (List.mem_of_getElem? (i := 44) rfl)), by intro z h; obtain rfl : ("cap", "I", 0, false) = z := Option.some.inj h; exact (hw _ (List.mem_of_getElem? (i := 46) rfl)), by intro z h; obtain rfl : ("nPolls", "I", 0, false) = z := Option.some.inj h; exact (hw _ (List.mem_of_getElem? (i := 48) rfl)), by intro z h; obtain rfl : ("resN", "I", 0, false) = z := Option.some.inj h; exact (hw _ (List.mem_of_getElem? (i := 50) rfl)), trivial⟩),
   asc_all (⟨(hw _ (List.mem_of_getElem? (i := 45) rfl)), (hw _ (List.mem_of_getElem? (i := 47) rfl)), (hw _ (List.mem_of_getElem? (i := 49) rfl)), (hw _ (List.mem_of_getElem? (i := 18) rfl)), (hw _ (List.mem_of_getElem? (i := 20) rfl)), (hw _ (List.mem_of_getElem? (i := 23) rfl)), (hw _ (List.mem_of_getElem? (i := 25) rfl)), (hw _ (List.mem_of_getElem? (i := 27) rfl)), (hw _ (List.mem_of_getElem? (i := 29) rfl)), (hw _ (List.mem_of_getElem? (i := 31) rfl)), (hw _ (List.mem_of_getElem? (i := 33) rfl)), (hw _ (List.mem_of_getElem? (i := 35) rfl)), (hw _ (List.mem_of_getElem? (i := 37) rfl)), (hw _ (List.mem_of_getElem? (i := 39) rfl)), (hw _ (List.mem_of_getElem? (i := 51) rfl)), trivial⟩),
   asc_all (⟨(by decide +kernel), (by decide +kernel), (by decide +kernel), (by decide +kernel), (by decide +kernel), (by decide +kernel), (by decide +kernel), (by decide +kernel), (by decide +kernel), (by decide +kernel), (by decide +kernel), (by decide +kernel), (by decide +kernel), (by decide +kernel), (by decide +kernel), trivial⟩),
   dst_ok (by decide +kernel),
   lst_all (⟨⟨by decide, (hw _ (List.mem_of_getElem? (i := 16) rfl))⟩, ⟨by decide, (hw _ (List.mem_of_getElem? (i := 16) rfl))⟩, ⟨by decide, (hw _ (List.mem_of_getElem? (i := 21) rfl))⟩, ⟨by decide, (hw _ (List.mem_of_getElem? (i := 21) rfl))⟩, ⟨by decide, (hw _ (List.mem_of_getElem? (i := 21) rfl))⟩, ⟨by decide, (hw _ (List.mem_of_getElem? (i := 16) rfl))⟩, ⟨by decide, (hw _ (List.mem_of_getElem? (i := 21) rfl))⟩, ⟨by decide, (hw _ (List.mem_of_getElem? (i := 16) rfl))⟩, ⟨by decide, (hw _ (List.mem_of_getElem? (i := 21) rfl))⟩, ⟨by decide, (hw _ (List.mem_of_getElem? (i := 21) rfl))⟩, ⟨by decide, (hw _ (List.mem_of_getElem? (i := 21) rfl))⟩, trivial⟩),
   asc_all (trivial),
   ⟨(hw _ (List.mem_of_getElem? (i := 13) rfl)), (hw _ (List.mem_of_getElem? (i := 14) rfl)), (hw _ (List.mem_of_getElem? (i := 15) rfl))⟩,
   asc_all (⟨⟨prog_1_method_1_code, [.int, .int, .int], (hw _ (List.mem_of_getElem? (i := 12) rfl)), chk_ok dk_c0, pk_c0, rfl⟩, ⟨prog_1_method_2_code, [.int, .int, .int], (hw _ (List.mem_of_getElem? (i := 43) rfl)), chk_ok dk_c2, pk_c2, rfl⟩, ⟨prog_1_method_3_code, [.int], (hw _ (List.mem_of_getElem? (i := 66) rfl)), chk_ok dk_c3, pk_c3, rfl⟩, ⟨prog_1_method_4_code, [.int], (hw _ (List.mem_of_getElem? (i := 123) rfl)), chk_ok dk_c4, pk_c4, rfl⟩, ⟨prog_1_method_5_code, [.int], (hw _ (List.mem_of_getElem? (i := 164) rfl)), chk_ok dk_c5, pk_c5, rfl⟩, ⟨prog_1_method_6_code, [.int], (hw _ (List.mem_of_getElem? (i := 92) rfl)), chk_ok dk_c6, pk_c6, rfl⟩, ⟨prog_1_method_7_code, [.int], (hw _ (List.mem_of_getElem? (i := 141) rfl)), chk_ok dk_c7, pk_c7, rfl⟩, ⟨prog_1_method_8_code, [.int, .int], (hw _ (List.mem_of_getElem? (i := 109) rfl)), chk_ok dk_c8, pk_c8, rfl⟩, ⟨prog_1_method_9_code, [.int, .int], (hw _ (List.mem_of_getElem? (i := 168) rfl)), chk_ok dk_c9, pk_c9, rfl⟩, ⟨prog_1_method_10_code, [.int, .int, .int], (hw _ (List.mem_of_getElem? (i := 160) rfl)), chk_ok dk_c10, pk_c10, rfl⟩, ⟨prog_1_method_11_code, [.int], (hw _ (List.mem_of_getElem? (i := 191) rfl)), chk_ok dk_c11, pk_c11, rfl⟩, ⟨prog_1_method_12_code, [.int], (hw _ (List.mem_of_getElem? (i := 187) rfl)), chk_ok dk_c12, pk_c12, rfl⟩, ⟨prog_1_method_13_code, [.int, .int], (hw _ (List.mem_of_getElem? (i := 127) rfl)), chk_ok dk_c13, pk_c13, rfl⟩, ⟨prog_1_method_14_code, [.int, .int], (hw _ (List.mem_of_getElem? (i := 88) rfl)), chk_ok dk_c14, pk_c14, rfl⟩, ⟨prog_1_method_15_code, [], (hw _ (List.mem_of_getElem? (i := 119) rfl)), chk_ok dk_c15, pk_c15, rfl⟩, ⟨prog_1_method_16_code, [.int, .int], (hw _ (List.mem_of_getElem? (i := 71) rfl)), chk_ok dk_c16, pk_c16, rfl⟩, ⟨prog_1_method_17_code, [.int], (hw _ (List.mem_of_getElem? (i := 114) rfl)), chk_ok dk_c17, pk_c17, rfl⟩, ⟨prog_1_method_18_code, [.int], (hw _ (List.mem_of_getElem? (i := 146) rfl)), chk_ok dk_c18, pk_c18, rfl⟩, ⟨prog_1_method_19_code, [.int, .int, .int], (hw _ (List.mem_of_getElem? (i := 151) rfl)), chk_ok dk_c19, pk_c19, rfl⟩, ⟨prog_1_method_20_code, [.int, .int, .int], (hw _ (List.mem_of_getElem? (i := 137) rfl)), chk_ok dk_c20, pk_c20, rfl⟩, ⟨prog_1_method_21_code, [.int, .int], (hw _ (List.mem_of_getElem? (i := 156) rfl)), chk_ok dk_c21, pk_c21, rfl⟩, ⟨prog_1_method_22_code, [.int, .int], (hw _ (List.mem_of_getElem? (i := 132) rfl)), chk_ok dk_c22, pk_c22, rfl⟩, ⟨prog_1_method_23_code, [.int], (hw _ (List.mem_of_getElem? (i := 172) rfl)), chk_ok dk_c23, pk_c23, rfl⟩, ⟨prog_1_method_24_code, [.int], (hw _ (List.mem_of_getElem? (i := 178) rfl)), chk_ok dk_c24, pk_c24, rfl⟩, ⟨prog_1_method_25_code, [.int], (hw _ (List.mem_of_getElem? (i := 183) rfl)), chk_ok dk_c25, pk_c25, rfl⟩, ⟨prog_1_method_27_code, [.int], (hw _ (List.mem_of_getElem? (i := 62) rfl)), chk_ok dk_c27, pk_c27, rfl⟩, ⟨prog_1_method_28_code, [.int, .int], (hw _ (List.mem_of_getElem? (i := 84) rfl)), chk_ok dk_c28, pk_c28, rfl⟩, ⟨prog_1_method_29_code, [.int, .int], (hw _ (List.mem_of_getElem? (i := 100) rfl)), chk_ok dk_c29, pk_c29, rfl⟩, ⟨prog_1_method_30_code, [.int], (hw _ (List.mem_of_getElem? (i := 105) rfl)), chk_ok dk_c30, pk_c30, rfl⟩, trivial⟩),
   asc_all (⟨by intro z h; obtain rfl : cm2 = z := Option.some.inj h; exact ⟨(hw _ (List.mem_of_getElem? (i := 40) rfl)), (hw _ (List.mem_of_getElem? (i := 41) rfl)), Or.inl (hw _ (List.mem_of_getElem? (i := 42) rfl))⟩, by intro z h; obtain rfl : cm4 = z := Option.some.inj h; exact ⟨(hw _ (List.mem_of_getElem? (i := 120) rfl)), (hw _ (List.mem_of_getElem? (i := 121) rfl)), Or.inl (hw _ (List.mem_of_getElem? (i := 122) rfl))⟩, by intro z h; obtain rfl : cm5 = z := Option.some.inj h; exact ⟨(hw _ (List.mem_of_getElem? (i := 161) rfl)), (hw _ (List.mem_of_getElem? (i := 162) rfl)), Or.inl (hw _ (List.mem_of_getElem? (i := 163) rfl))⟩, by intro z h; obtain rfl : cm8 = z := Option.some.inj h; exact ⟨(hw _ (List.mem_of_getElem? (i := 106) rfl)), (hw _ (List.mem_of_getElem? (i := 107) rfl)), Or.inl (hw _ (List.mem_of_getElem? (i := 108) rfl))⟩, by intro z h; obtain rfl : cm11 = z := Option.some.inj h; exact ⟨(hw _ (List.mem_of_getElem? (i := 188) rfl)), (hw _ (List.mem_of_getElem? (i := 189) rfl)), Or.inl (hw _ (List.mem_of_getElem? (i := 190) rfl))⟩, by intro z h; obtain rfl : cm3 = z := Option.some.inj h; exact ⟨(hw _ (List.mem_of_getElem? (i := 63) rfl)), (hw _ (List.mem_of_getElem? (i := 64) rfl)), Or.inl (hw _ (List.mem_of_getElem? (i := 65) rfl))⟩, by intro z h; obtain rfl : cm6 = z := Option.some.inj h; exact ⟨(hw _ (List.mem_of_getElem? (i := 89) rfl)), (hw _ (List.mem_of_getElem? (i := 90) rfl)), Or.inl (hw _ (List.mem_of_getElem? (i := 91) rfl))⟩, by intro z h; obtain rfl : cm13 = z := Option.some.inj h; exact ⟨(hw _ (List.mem_of_getElem? (i := 124) rfl)), (hw _ (List.mem_of_getElem? (i := 125) rfl)), Or.inl (hw _ (List.mem_of_getElem? (i := 126) rfl))⟩, by intro z h; obtain rfl : cm12 = z := Option.some.inj h; exact ⟨(hw _ (List.mem_of_getElem? (i := 184) rfl)), (hw _ (List.mem_of_getElem? (i := 185) rfl)), Or.inl (hw _ (List.mem_of_getElem? (i := 186) rfl))⟩, by intro z h; obtain rfl : cm7 = z := Option.some.inj h; exact ⟨(hw _ (List.mem_of_getElem? (i := 138) rfl)), (hw _ (List.mem_of_getElem? (i := 139) rfl)), Or.inl (hw _ (List.mem_of_getElem? (i := 140) rfl))⟩, by intro z h; obtain rfl : cm10 = z := Option.some.inj h; exact ⟨(hw _ (List.mem_of_getElem? (i := 157) rfl)), (hw _ (List.mem_of_getElem? (i := 158) rfl)), Or.inl (hw _ (List.mem_of_getElem? (i := 159) rfl))⟩, by intro z h; obtain rfl : cm9 = z := Option.some.inj h; exact ⟨(hw _ (List.mem_of_getElem? (i := 165) rfl)), (hw _ (List.mem_of_getElem? (i := 166) rfl)), Or.inl (hw _ (List.mem_of_getElem? (i := 167) rfl))⟩, by intro z h; obtain rfl : cm23 = z := Option.some.inj h; exact ⟨(hw _ (List.mem_of_getElem? (i := 169) rfl)), (hw _ (List.mem_of_getElem? (i := 170) rfl)), Or.inl (hw _ (List.mem_of_getElem? (i := 171) rfl))⟩, by intro z h; obtain rfl : cm14 = z := Option.some.inj h; exact ⟨(hw _ (List.mem_of_getElem? (i := 85) rfl)), (hw _ (List.mem_of_getElem? (i := 86) rfl)), Or.inl (hw _ (List.mem_of_getElem? (i := 87) rfl))⟩, trivial⟩),
   (by first | (simp [plainName, overriddenIn]; done) | decide +kernel),
   (by decide),
   (by intro me h; obtain rfl : cm0 = me := Option.some.inj h; rfl)⟩
theorem lkL (Z : State) (a0 : Array Value) (hw : ∀ d ∈ tables_1, d.before a0 Z = true) : LinkL PP QQ Z a0 :=
  ⟨⟨(hw _ (List.mem_of_getElem? (i := 0) rfl)), (hw _ (List.mem_of_getElem? (i := 1) rfl))⟩,
   (by intro me h; obtain rfl : cm0 = me := Option.some.inj h; exact ⟨(hw _ (List.mem_of_getElem? (i := 10) rfl)), (hw _ (List.mem_of_getElem? (i := 11) rfl)), rfl⟩),
   asc_all (⟨by intro z h; obtain rfl : cm27 = z := Option.some.inj h; exact ⟨(hw _ (List.mem_of_getElem? (i := 58) rfl)), (hw _ (List.mem_of_getElem? (i := 59) rfl)), (hw _ (List.mem_of_getElem? (i := 60) rfl)), (hw _ (List.mem_of_getElem? (i := 61) rfl))⟩, by intro z h; obtain rfl : cm15 = z := Option.some.inj h; exact ⟨(hw _ (List.mem_of_getElem? (i := 115) rfl)), (hw _ (List.mem_of_getElem? (i := 116) rfl)), (hw _ (List.mem_of_getElem? (i := 117) rfl)), (hw _ (List.mem_of_getElem? (i := 118) rfl))⟩, by intro z h; obtain rfl : cm16 = z := Option.some.inj h; exact ⟨(hw _ (List.mem_of_getElem? (i := 67) rfl)), (hw _ (List.mem_of_getElem? (i := 68) rfl)), (hw _ (List.mem_of_getElem? (i := 69) rfl)), (hw _ (List.mem_of_getElem? (i := 70) rfl))⟩, by intro z h; obtain rfl : cm17 = z := Option.some.inj h; exact ⟨(hw _ (List.mem_of_getElem? (i := 110) rfl)), (hw _ (List.mem_of_getElem? (i := 111) rfl)), (hw _ (List.mem_of_getElem? (i := 112) rfl)), (hw _ (List.mem_of_getElem? (i := 113) rfl))⟩, by intro z h; obtain rfl : cm18 = z := Option.some.inj h; exact ⟨(hw _ (List.mem_of_getElem? (i := 142) rfl)), (hw _ (List.mem_of_getElem? (i := 143) rfl)), (hw _ (List.mem_of_getElem? (i := 144) rfl)), (hw _ (List.mem_of_getElem? (i := 145) rfl))⟩, by intro z h; obtain rfl : cm19 = z := Option.some.inj h; exact ⟨(hw _ (List.mem_of_getElem? (i := 147) rfl)), (hw _ (List.mem_of_getElem? (i := 148) rfl)), (hw _ (List.mem_of_getElem? (i := 149) rfl)), (hw _ (List.mem_of_getElem? (i := 150) rfl))⟩, by intro z h; obtain rfl : cm20 = z := Option.some.inj h; exact ⟨(hw _ (List.mem_of_getElem? (i := 133) rfl)), (hw _ (List.mem_of_getElem? (i := 134) rfl)), (hw _ (List.mem_of_getElem? (i := 135) rfl)), (hw _ (List.mem_of_getElem? (i := 136) rfl))⟩, by intro z h; obtain rfl : cm21 = z := Option.some.inj h; exact ⟨(hw _ (List.mem_of_getElem? (i := 152) rfl)), (hw _ (List.mem_of_getElem? (i := 153) rfl)), (hw _ (List.mem_of_getElem? (i := 154) rfl)), (hw _ (List.mem_of_getElem? (i := 155) rfl))⟩, by intro z h; obtain rfl : cm28 = z := Option.some.inj h; exact ⟨(hw _ (List.mem_of_getElem? (i := 80) rfl)), (hw _ (List.mem_of_getElem? (i := 81) rfl)), (hw _ (List.mem_of_getElem? (i := 82) rfl)), (hw _ (List.mem_of_getElem? (i := 83) rfl))⟩, by intro z h; obtain rfl : cm22 = z := Option.some.inj h; exact ⟨(hw _ (List.mem_of_getElem? (i := 128) rfl)), (hw _ (List.mem_of_getElem? (i := 129) rfl)), (hw _ (List.mem_of_getElem? (i := 130) rfl)), (hw _ (List.mem_of_getElem? (i := 131) rfl))⟩, by intro z h; obtain rfl : cm24 = z := Option.some.inj h; exact ⟨(hw _ (List.mem_of_getElem? (i := 174) rfl)), (hw _ (List.mem_of_getElem? (i := 175) rfl)), (hw _ (List.mem_of_getElem? (i := 176) rfl)), (hw _ (List.mem_of_getElem? (i := 177) rfl))⟩, by intro z h; obtain rfl : cm25 = z := Option.some.inj h; exact ⟨(hw _ (List.mem_of_getElem? (i := 179) rfl)), (hw _ (List.mem_of_getElem? (i := 180) rfl)), (hw _ (List.mem_of_getElem? (i := 181) rfl)), (hw _ (List.mem_of_getElem? (i := 182) rfl))⟩, by intro z h; obtain rfl : cm29 = z := Option.some.inj h; exact ⟨(hw _ (List.mem_of_getElem? (i := 96) rfl)), (hw _ (List.mem_of_getElem? (i := 97) rfl)), (hw _ (List.mem_of_getElem? (i := 98) rfl)), (hw _ (List.mem_of_getElem? (i := 99) rfl))⟩, by intro z h; obtain rfl : cm30 = z := Option.some.inj h; exact ⟨(hw _ (List.mem_of_getElem? (i := 101) rfl)), (hw _ (List.mem_of_getElem? (i := 102) rfl)), (hw _ (List.mem_of_getElem? (i := 103) rfl)), (hw _ (List.mem_of_getElem? (i := 104) rfl))⟩, trivial⟩),
   asc_all (⟨by intro z h; obtain rfl : lm4 = z := Option.some.inj h; exact ⟨(hw _ (List.mem_of_getElem? (i := 55) rfl)), (hw _ (List.mem_of_getElem? (i := 56) rfl)), (hw _ (List.mem_of_getElem? (i := 5) rfl))⟩, by intro z h; obtain rfl : lm2 = z := Option.some.inj h; exact ⟨(hw _ (List.mem_of_getElem? (i := 3) rfl)), (hw _ (List.mem_of_getElem? (i := 4) rfl)), (hw _ (List.mem_of_getElem? (i := 5) rfl))⟩, by intro z h; obtain rfl : lm3 = z := Option.some.inj h; exact ⟨(hw _ (List.mem_of_getElem? (i := 7) rfl)), (hw _ (List.mem_of_getElem? (i := 8) rfl)), (hw _ (List.mem_of_getElem? (i := 5) rfl))⟩, by intro z h; obtain rfl : lm5 = z := Option.some.inj h; exact ⟨(hw _ (List.mem_of_getElem? (i := 52) rfl)), (hw _ (List.mem_of_getElem? (i := 53) rfl)), (hw _ (List.mem_of_getElem? (i := 5) rfl))⟩, by intro z h; obtain rfl : lm6 = z := Option.some.inj h; exact ⟨(hw _ (List.mem_of_getElem? (i := 72) rfl)), (hw _ (List.mem_of_getElem? (i := 73) rfl)), (hw _ (List.mem_of_getElem? (i := 5) rfl))⟩, by intro z h; obtain rfl : lm8 = z := Option.some.inj h; exact ⟨(hw _ (List.mem_of_getElem? (i := 93) rfl)), (hw _ (List.mem_of_getElem? (i := 94) rfl)), (hw _ (List.mem_of_getElem? (i := 5) rfl))⟩, by intro z h; obtain rfl : lm7 = z := Option.some.inj h; exact ⟨(hw _ (List.mem_of_getElem? (i := 76) rfl)), (hw _ (List.mem_of_getElem? (i := 77) rfl)), (hw _ (List.mem_of_getElem? (i := 5) rfl))⟩, trivial⟩),
   asc_all (⟨(hw _ (List.mem_of_getElem? (i := 75) rfl)), (hw _ (List.mem_of_getElem? (i := 79) rfl)), (hw _ (List.mem_of_getElem? (i := 173) rfl)), trivial⟩),
   asc_all (⟨fun h => absurd rfl h, fun _ => ⟨method_2_code, [.array .int, .int], (hw _ (List.mem_of_getElem? (i := 6) rfl)), chk_ok dk_l2, pk_l2, rfl⟩, fun _ => ⟨method_3_code, [.int, .int], (hw _ (List.mem_of_getElem? (i := 9) rfl)), chk_ok dk_l3, pk_l3, rfl⟩, fun _ => ⟨method_4_code, [.object "ReadinessPoller", .int], (hw _ (List.mem_of_getElem? (i := 57) rfl)), chk_ok dk_l4, pk_l4, rfl⟩, fun _ => ⟨method_5_code, [.object "ReadinessPoller"], (hw _ (List.mem_of_getElem? (i := 54) rfl)), chk_ok dk_l5, pk_l5, rfl⟩, fun _ => ⟨method_6_code, [.long, .int], (hw _ (List.mem_of_getElem? (i := 74) rfl)), chk_ok dk_l6, pk_l6, rfl⟩, fun _ => ⟨method_7_code, [.long, .int, .int], (hw _ (List.mem_of_getElem? (i := 78) rfl)), chk_ok dk_l7, pk_l7, rfl⟩, fun _ => ⟨method_8_code, [.int, .int, .int], (hw _ (List.mem_of_getElem? (i := 95) rfl)), chk_ok dk_l8, pk_l8, rfl⟩, trivial⟩),
   (by first | (simp [plainName, overriddenIn]; done) | decide +kernel),
   (by decide)⟩
theorem l2r0W0p_in (N : Nat) (sg : Nat → Int32) (a1 : Int32)  (Q : Int32 → Wd → Prop) (h : ((a1 < (Int32.ofNat N)) → inb N a1 ∧ Q (sg (ix a1)) W0p) ∧ (¬ (a1 < (Int32.ofNat N)) → Q (0 : Int32) W0p)) : lalI PP QQ (some (N, sg)) 2 [.ref 0, .int a1] W0p Q := by
  refine lal_of (me := lm2) (ls := [some (.ref 0), some (.int a1)]) rfl (Nat.le_of_ble_eq_true rfl) rfl ?_
  refine wpl_sl (n := 2) (pc' := 2) (ls' := [some (.ref 0), some (.int a1)]) (st' := [.ref 0, .int a1]) rfl ?_
  refine wpl_len rfl ?_
  refine wpl_icmp (a := 12) (b := 6) rfl (by decide) rfl rfl (wpl_br (p := a1 < (Int32.ofNat N)) ⟨fun hc217 => ?_, fun hc217 => ?_⟩)
  · have h218 := h.1 hc217
    refine wpl_sl (n := 2) (pc' := 8) (ls' := [some (.ref 0), some (.int a1)]) (st' := [.int a1, .ref 0]) rfl ?_
    refine wpl_lda rfl h218.1 ?_
    have h220 := h218.2
    refine wpl_sl (n := 1) (pc' := 13) (ls' := [some (.ref 0), some (.int a1)]) (st' := [.int (sg (ix a1))]) rfl ?_
    exact wpl_ret rfl rfl rfl ⟨(sg (ix a1)), rfl, h220⟩
  · have h219 := h.2 hc217
    refine wpl_sl (n := 1) (pc' := 13) (ls' := [some (.ref 0), some (.int a1)]) (st' := [.int (0 : Int32)]) rfl ?_
    exact wpl_ret rfl rfl rfl ⟨(0 : Int32), rfl, h219⟩
theorem l3W0p_in (N : Nat) (sg : Nat → Int32) (a0 : Int32) (a1 : Int32)  (Q : Int32 → Wd → Prop) (h : (¬ (a1 = (0 : Int32))) ∧ (((a0 % a1) < (0 : Int32)) → Q ((a0 % a1) + a1) W0p) ∧ (¬ ((a0 % a1) < (0 : Int32)) → Q (a0 % a1) W0p)) : lalI PP QQ (some (N, sg)) 3 [.int a0, .int a1] W0p Q := by
  refine lal_of (me := lm3) (ls := [some (.int a0), some (.int a1), none]) rfl (Nat.le_of_ble_eq_true rfl) rfl ?_
  refine wpl_sl (n := 2) (pc' := 2) (ls' := [some (.int a0), some (.int a1), none]) (st' := [.int a1, .int a0]) rfl ?_
  refine wpl_irem rfl h.1 ?_
  have h221 := h.2
  refine wpl_sl (n := 2) (pc' := 5) (ls' := [some (.int a0), some (.int a1), some (.int (a0 % a1))]) (st' := [.int (a0 % a1)]) rfl ?_
  refine wpl_if (a := 14) (b := 8) rfl (by decide) rfl rfl (wpl_br (p := (a0 % a1) < (0 : Int32)) ⟨fun hc222 => ?_, fun hc222 => ?_⟩)
  · have h223 := h221.1 hc222
    refine wpl_sl (n := 4) (pc' := 15) (ls' := [some (.int a0), some (.int a1), some (.int (a0 % a1))]) (st' := [.int ((a0 % a1) + a1)]) rfl ?_
    exact wpl_ret rfl rfl rfl ⟨((a0 % a1) + a1), rfl, h223⟩
  · have h224 := h221.2 hc222
    refine wpl_sl (n := 1) (pc' := 15) (ls' := [some (.int a0), some (.int a1), some (.int (a0 % a1))]) (st' := [.int (a0 % a1)]) rfl ?_
    exact wpl_ret rfl rfl rfl ⟨(a0 % a1), rfl, h224⟩
theorem c2_in (a1 : Int32) (a2 : Int32) (a3 : Int32) (s : St) (Q : Int32 → St → Prop) (h : ((a1 < a2) → Q a2 s) ∧ (¬ (a1 < a2) → ((a3 < a1) → Q a3 s) ∧ (¬ (a3 < a1) → Q a1 s))) : calI PP 2 11 [.ref 0, .int a1, .int a2, .int a3] s Q := by
  refine cal_of (me := cm2) (ls := [some (.ref 0), some (.int a1), some (.int a2), some (.int a3)]) rfl (Nat.le_of_ble_eq_true rfl) rfl ?_
  refine wpc_sl (n := 2) (c' := 11) (pc' := 2) (ls' := [some (.ref 0), some (.int a1), some (.int a2), some (.int a3)]) (st' := [.int a2, .int a1]) (s' := s) rfl ?_
  refine wpc_icmp (a := 7) (b := 5) rfl (by decide) rfl rfl (wpc_br (p := a1 < a2) ⟨fun hc234 => ?_, fun hc234 => ?_⟩)
  · have h235 := h.1 hc234
    refine wpc_sl (n := 1) (c' := 11) (pc' := 6) (ls' := [some (.ref 0), some (.int a1), some (.int a2), some (.int a3)]) (st' := [.int a2]) (s' := s) rfl ?_
    exact wpc_ret rfl rfl (fun q => absurd q (by decide)) rfl ⟨a2, rfl, h235⟩
  · have h236 := h.2 hc234
    refine wpc_sl (n := 2) (c' := 11) (pc' := 9) (ls' := [some (.ref 0), some (.int a1), some (.int a2), some (.int a3)]) (st' := [.int a3, .int a1]) (s' := s) rfl ?_
    refine wpc_icmp (a := 14) (b := 12) rfl (by decide) rfl rfl (wpc_br (p := a3 < a1) ⟨fun hc237 => ?_, fun hc237 => ?_⟩)
    · have h238 := h236.1 hc237
      refine wpc_sl (n := 1) (c' := 11) (pc' := 13) (ls' := [some (.ref 0), some (.int a1), some (.int a2), some (.int a3)]) (st' := [.int a3]) (s' := s) rfl ?_
      exact wpc_ret rfl rfl (fun q => absurd q (by decide)) rfl ⟨a3, rfl, h238⟩
    · have h239 := h236.2 hc237
      refine wpc_sl (n := 1) (c' := 11) (pc' := 15) (ls' := [some (.ref 0), some (.int a1), some (.int a2), some (.int a3)]) (st' := [.int a1]) (s' := s) rfl ?_
      exact wpc_ret rfl rfl (fun q => absurd q (by decide)) rfl ⟨a1, rfl, h239⟩
theorem c0_in (a1 : Int32) (a2 : Int32) (a3 : Int32) (s : St) (Q : St → Prop) (h : calI PP 2 11 [.ref 0, .int a1, .int (1 : Int32), .int (8 : Int32)] s (fun v226 s225 => calI PP 2 11 [.ref 0, .int a2, .int (1 : Int32), .int (16 : Int32)] (sI s225 0 17 v226) (fun v229 s228 => calI PP 2 11 [.ref 0, .int a3, .int (1 : Int32), .int (4 : Int32)] (sI s228 0 18 v229) (fun v232 s231 => Q (sI (sI s231 0 19 v232) 0 31 (0 : Int32)))))) : calV PP 0 0 [.ref 0, .int a1, .int a2, .int a3] s Q := by
  refine cal_of (me := cm0) (ls := [some (.ref 0), some (.int a1), some (.int a2), some (.int a3)]) rfl (Nat.le_of_ble_eq_true rfl) rfl ?_
  refine wpc_sl (n := 40) (c' := 11) (pc' := 99) (ls' := [some (.ref 0), some (.int a1), some (.int a2), some (.int a3)]) (st' := [.int (8 : Int32), .int (1 : Int32), .int a1, .ref 0, .ref 0]) (s' := s) rfl ?_
  refine wpc_callI (m' := 2) (me' := cm2) (as := [.int a1, .int (1 : Int32), .int (8 : Int32)]) (r := [.ref 0]) rfl rfl rfl rfl rfl ⟨by decide, (by first | decide | exact Nat.le_of_ble_eq_true rfl), (by first | decide | exact Nat.le_of_ble_eq_true rfl), rfl⟩ (calI.mono h fun v226 s225 h227 => ?_)
  refine wpc_sl (n := 6) (c' := 11) (pc' := 111) (ls' := [some (.ref 0), some (.int a1), some (.int a2), some (.int a3)]) (st' := [.int (16 : Int32), .int (1 : Int32), .int a2, .ref 0, .ref 0]) (s' := (sI s225 0 17 v226)) rfl ?_
  refine wpc_callI (m' := 2) (me' := cm2) (as := [.int a2, .int (1 : Int32), .int (16 : Int32)]) (r := [.ref 0]) rfl rfl rfl rfl rfl ⟨by decide, (by first | decide | exact Nat.le_of_ble_eq_true rfl), (by first | decide | exact Nat.le_of_ble_eq_true rfl), rfl⟩ (calI.mono h227 fun v229 s228 h230 => ?_)
  refine wpc_sl (n := 6) (c' := 11) (pc' := 122) (ls' := [some (.ref 0), some (.int a1), some (.int a2), some (.int a3)]) (st' := [.int (4 : Int32), .int (1 : Int32), .int a3, .ref 0, .ref 0]) (s' := (sI s228 0 18 v229)) rfl ?_
  refine wpc_callI (m' := 2) (me' := cm2) (as := [.int a3, .int (1 : Int32), .int (4 : Int32)]) (r := [.ref 0]) rfl rfl rfl rfl rfl ⟨by decide, (by first | decide | exact Nat.le_of_ble_eq_true rfl), (by first | decide | exact Nat.le_of_ble_eq_true rfl), rfl⟩ (calI.mono h230 fun v232 s231 h233 => ?_)
  refine wpc_sl (n := 4) (c' := 11) (pc' := 133) (ls' := [some (.ref 0), some (.int a1), some (.int a2), some (.int a3)]) (st' := []) (s' := (sI (sI s231 0 19 v232) 0 31 (0 : Int32))) rfl ?_
  exact wpc_ret rfl rfl (fun _ => rfl) rfl ⟨rfl, h233⟩
theorem l2r0W1_in (N : Nat) (sg : Nat → Int32) (a1 : Int32) (s : St) (Q : Int32 → Wd → Prop) (h : ((a1 < (Int32.ofNat N)) → inb N a1 ∧ Q (sg (ix a1)) (W1 s)) ∧ (¬ (a1 < (Int32.ofNat N)) → Q (0 : Int32) (W1 s))) : lalI PP QQ (some (N, sg)) 2 [.ref 0, .int a1] (W1 s) Q := by
  refine lal_of (me := lm2) (ls := [some (.ref 0), some (.int a1)]) rfl (Nat.le_of_ble_eq_true rfl) rfl ?_
  refine wpl_sl (n := 2) (pc' := 2) (ls' := [some (.ref 0), some (.int a1)]) (st' := [.ref 0, .int a1]) rfl ?_
  refine wpl_len rfl ?_
  refine wpl_icmp (a := 12) (b := 6) rfl (by decide) rfl rfl (wpl_br (p := a1 < (Int32.ofNat N)) ⟨fun hc240 => ?_, fun hc240 => ?_⟩)
  · have h241 := h.1 hc240
    refine wpl_sl (n := 2) (pc' := 8) (ls' := [some (.ref 0), some (.int a1)]) (st' := [.int a1, .ref 0]) rfl ?_
    refine wpl_lda rfl h241.1 ?_
    have h243 := h241.2
    refine wpl_sl (n := 1) (pc' := 13) (ls' := [some (.ref 0), some (.int a1)]) (st' := [.int (sg (ix a1))]) rfl ?_
    exact wpl_ret rfl rfl rfl ⟨(sg (ix a1)), rfl, h243⟩
  · have h242 := h.2 hc240
    refine wpl_sl (n := 1) (pc' := 13) (ls' := [some (.ref 0), some (.int a1)]) (st' := [.int (0 : Int32)]) rfl ?_
    exact wpl_ret rfl rfl rfl ⟨(0 : Int32), rfl, h242⟩
theorem l3W1_in (N : Nat) (sg : Nat → Int32) (a0 : Int32) (a1 : Int32) (s : St) (Q : Int32 → Wd → Prop) (h : (¬ (a1 = (0 : Int32))) ∧ (((a0 % a1) < (0 : Int32)) → Q ((a0 % a1) + a1) (W1 s)) ∧ (¬ ((a0 % a1) < (0 : Int32)) → Q (a0 % a1) (W1 s))) : lalI PP QQ (some (N, sg)) 3 [.int a0, .int a1] (W1 s) Q := by
  refine lal_of (me := lm3) (ls := [some (.int a0), some (.int a1), none]) rfl (Nat.le_of_ble_eq_true rfl) rfl ?_
  refine wpl_sl (n := 2) (pc' := 2) (ls' := [some (.int a0), some (.int a1), none]) (st' := [.int a1, .int a0]) rfl ?_
  refine wpl_irem rfl h.1 ?_
  have h244 := h.2
  refine wpl_sl (n := 2) (pc' := 5) (ls' := [some (.int a0), some (.int a1), some (.int (a0 % a1))]) (st' := [.int (a0 % a1)]) rfl ?_
  refine wpl_if (a := 14) (b := 8) rfl (by decide) rfl rfl (wpl_br (p := (a0 % a1) < (0 : Int32)) ⟨fun hc245 => ?_, fun hc245 => ?_⟩)
  · have h246 := h244.1 hc245
    refine wpl_sl (n := 4) (pc' := 15) (ls' := [some (.int a0), some (.int a1), some (.int (a0 % a1))]) (st' := [.int ((a0 % a1) + a1)]) rfl ?_
    exact wpl_ret rfl rfl rfl ⟨((a0 % a1) + a1), rfl, h246⟩
  · have h247 := h244.2 hc245
    refine wpl_sl (n := 1) (pc' := 15) (ls' := [some (.int a0), some (.int a1), some (.int (a0 % a1))]) (st' := [.int (a0 % a1)]) rfl ?_
    exact wpl_ret rfl rfl rfl ⟨(a0 % a1), rfl, h247⟩
theorem c3_in (a1 : Int32) (s : St) (Q : Int32 → St → Prop) (h : ((a1 < (0 : Int32)) → Q (0 : Int32) s) ∧ (¬ (a1 < (0 : Int32)) → ((a1 < ((2 : Int32) * (gI s 0 17))) → (((a1 &&& (1 : Int32)) = (0 : Int32)) → inb 8 (a1 >>> ((1 : Int32) &&& 31)) ∧ Q ((gI s 1 (ix (a1 >>> ((1 : Int32) &&& 31)))) &&& 1) s) ∧ (¬ ((a1 &&& (1 : Int32)) = (0 : Int32)) → inb 8 (a1 >>> ((1 : Int32) &&& 31)) ∧ Q ((gI s 2 (ix (a1 >>> ((1 : Int32) &&& 31)))) &&& 1) s)) ∧ (¬ (a1 < ((2 : Int32) * (gI s 0 17))) → Q (0 : Int32) s))) : calI PP 3 11 [.ref 0, .int a1] s Q := by
  refine cal_of (me := cm3) (ls := [some (.ref 0), some (.int a1), none]) rfl (Nat.le_of_ble_eq_true rfl) rfl ?_
  refine wpc_sl (n := 1) (c' := 11) (pc' := 1) (ls' := [some (.ref 0), some (.int a1), none]) (st' := [.int a1]) (s' := s) rfl ?_
  refine wpc_if (a := 14) (b := 4) rfl (by decide) rfl rfl (wpc_br (p := a1 < (0 : Int32)) ⟨fun hc270 => ?_, fun hc270 => ?_⟩)
  · have h271 := h.1 hc270
    refine wpc_sl (n := 1) (c' := 11) (pc' := 15) (ls' := [some (.ref 0), some (.int a1), none]) (st' := [.int (0 : Int32)]) (s' := s) rfl ?_
    exact wpc_ret rfl rfl (fun q => absurd q (by decide)) rfl ⟨(0 : Int32), rfl, h271⟩
  · have h272 := h.2 hc270
    refine wpc_sl (n := 5) (c' := 11) (pc' := 11) (ls' := [some (.ref 0), some (.int a1), none]) (st' := [.int ((2 : Int32) * (gI s 0 17)), .int a1]) (s' := s) rfl ?_
    refine wpc_icmp (a := 16) (b := 14) rfl (by decide) rfl rfl (wpc_br (p := a1 < ((2 : Int32) * (gI s 0 17))) ⟨fun hc273 => ?_, fun hc273 => ?_⟩)
    · have h274 := h272.1 hc273
      refine wpc_sl (n := 7) (c' := 11) (pc' := 23) (ls' := [some (.ref 0), some (.int a1), some (.int (a1 >>> ((1 : Int32) &&& 31)))]) (st' := [.int (a1 &&& (1 : Int32))]) (s' := s) rfl ?_
      refine wpc_if (a := 33) (b := 26) rfl (by decide) rfl rfl (wpc_br (p := (a1 &&& (1 : Int32)) = (0 : Int32)) ⟨fun hc276 => ?_, fun hc276 => ?_⟩)
      · have h277 := h274.1 hc276
        refine wpc_sl (n := 3) (c' := 11) (pc' := 31) (ls' := [some (.ref 0), some (.int a1), some (.int (a1 >>> ((1 : Int32) &&& 31)))]) (st' := [.int (a1 >>> ((1 : Int32) &&& 31)), .ref 1]) (s' := s) rfl ?_
        refine wpc_ldaZ (a := 0) (N := 8) (v := (gI s 1 (ix (a1 >>> ((1 : Int32) &&& 31))))) rfl rfl (by decide) h277.1 rfl ?_
        have h279 := h277.2
        exact wpc_ret rfl rfl (fun q => absurd q (by decide)) rfl ⟨((gI s 1 (ix (a1 >>> ((1 : Int32) &&& 31)))) &&& 1), rfl, h279⟩
      · have h278 := h274.2 hc276
        refine wpc_sl (n := 3) (c' := 11) (pc' := 38) (ls' := [some (.ref 0), some (.int a1), some (.int (a1 >>> ((1 : Int32) &&& 31)))]) (st' := [.int (a1 >>> ((1 : Int32) &&& 31)), .ref 2]) (s' := s) rfl ?_
        refine wpc_ldaZ (a := 1) (N := 8) (v := (gI s 2 (ix (a1 >>> ((1 : Int32) &&& 31))))) rfl rfl (by decide) h278.1 rfl ?_
        have h280 := h278.2
        exact wpc_ret rfl rfl (fun q => absurd q (by decide)) rfl ⟨((gI s 2 (ix (a1 >>> ((1 : Int32) &&& 31)))) &&& 1), rfl, h280⟩
    · have h275 := h272.2 hc273
      refine wpc_sl (n := 1) (c' := 11) (pc' := 15) (ls' := [some (.ref 0), some (.int a1), none]) (st' := [.int (0 : Int32)]) (s' := s) rfl ?_
      exact wpc_ret rfl rfl (fun q => absurd q (by decide)) rfl ⟨(0 : Int32), rfl, h275⟩
theorem c4_in (a1 : Int32) (s : St) (Q : Int32 → St → Prop) (h : (((a1 &&& (1 : Int32)) = (0 : Int32)) → inb 8 (a1 >>> ((1 : Int32) &&& 31)) ∧ (((0 : Int32) < (gI s 5 (ix (a1 >>> ((1 : Int32) &&& 31))))) → inb 8 (a1 >>> ((1 : Int32) &&& 31)) ∧ (((gI s 2 (ix (a1 >>> ((1 : Int32) &&& 31)))) = (0 : Int32)) → Q (((0 : Int32) ||| (1 : Int32)) ||| (4 : Int32)) s) ∧ (¬ ((gI s 2 (ix (a1 >>> ((1 : Int32) &&& 31)))) = (0 : Int32)) → Q ((0 : Int32) ||| (1 : Int32)) s)) ∧ (¬ ((0 : Int32) < (gI s 5 (ix (a1 >>> ((1 : Int32) &&& 31))))) → inb 8 (a1 >>> ((1 : Int32) &&& 31)) ∧ ∀ m293, m293 = (if (gI s 2 (ix (a1 >>> ((1 : Int32) &&& 31)))) = (0 : Int32) then ((0 : Int32) ||| (1 : Int32)) else (0 : Int32)) → (inb 8 (a1 >>> ((1 : Int32) &&& 31)) ∧ (((gI s 2 (ix (a1 >>> ((1 : Int32) &&& 31)))) = (0 : Int32)) → Q (m293 ||| (4 : Int32)) s) ∧ (¬ ((gI s 2 (ix (a1 >>> ((1 : Int32) &&& 31)))) = (0 : Int32)) → Q m293 s)))) ∧ (¬ ((a1 &&& (1 : Int32)) = (0 : Int32)) → inb 8 (a1 >>> ((1 : Int32) &&& 31)) ∧ (((gI s 5 (ix (a1 >>> ((1 : Int32) &&& 31)))) < (gI s 0 18)) → inb 8 (a1 >>> ((1 : Int32) &&& 31)) ∧ (((gI s 1 (ix (a1 >>> ((1 : Int32) &&& 31)))) = (0 : Int32)) → Q (((0 : Int32) ||| (2 : Int32)) ||| (8 : Int32)) s) ∧ (¬ ((gI s 1 (ix (a1 >>> ((1 : Int32) &&& 31)))) = (0 : Int32)) → Q ((0 : Int32) ||| (2 : Int32)) s)) ∧ (¬ ((gI s 5 (ix (a1 >>> ((1 : Int32) &&& 31)))) < (gI s 0 18)) → inb 8 (a1 >>> ((1 : Int32) &&& 31)) ∧ ∀ m310, m310 = (if (gI s 1 (ix (a1 >>> ((1 : Int32) &&& 31)))) = (0 : Int32) then ((0 : Int32) ||| (2 : Int32)) else (0 : Int32)) → (inb 8 (a1 >>> ((1 : Int32) &&& 31)) ∧ (((gI s 1 (ix (a1 >>> ((1 : Int32) &&& 31)))) = (0 : Int32)) → Q (m310 ||| (8 : Int32)) s) ∧ (¬ ((gI s 1 (ix (a1 >>> ((1 : Int32) &&& 31)))) = (0 : Int32)) → Q m310 s))))) : calI PP 4 11 [.ref 0, .int a1] s Q := by
  refine cal_of (me := cm4) (ls := [some (.ref 0), some (.int a1), none, none]) rfl (Nat.le_of_ble_eq_true rfl) rfl ?_
  refine wpc_sl (n := 9) (c' := 11) (pc' := 9) (ls' := [some (.ref 0), some (.int a1), some (.int (a1 >>> ((1 : Int32) &&& 31))), some (.int (0 : Int32))]) (st' := [.int (a1 &&& (1 : Int32))]) (s' := s) rfl ?_
  refine wpc_if (a := 50) (b := 12) rfl (by decide) rfl rfl (wpc_br (p := (a1 &&& (1 : Int32)) = (0 : Int32)) ⟨fun hc281 => ?_, fun hc281 => ?_⟩)
  · have h282 := h.1 hc281
    refine wpc_sl (n := 3) (c' := 11) (pc' := 17) (ls' := [some (.ref 0), some (.int a1), some (.int (a1 >>> ((1 : Int32) &&& 31))), some (.int (0 : Int32))]) (st' := [.int (a1 >>> ((1 : Int32) &&& 31)), .ref 5]) (s' := s) rfl ?_
    refine wpc_ldaI (a := 4) (N := 8) (v := (gI s 5 (ix (a1 >>> ((1 : Int32) &&& 31))))) rfl rfl (by decide) h282.1 rfl ?_
    have h284 := h282.2
    refine wpc_if (a := 30) (b := 21) rfl (by decide) rfl rfl (wpc_br (p := (0 : Int32) < (gI s 5 (ix (a1 >>> ((1 : Int32) &&& 31))))) ⟨fun hc285 => ?_, fun hc285 => ?_⟩)
    · have h286 := h284.1 hc285
      refine wpc_sl (n := 7) (c' := 11) (pc' := 39) (ls' := [some (.ref 0), some (.int a1), some (.int (a1 >>> ((1 : Int32) &&& 31))), some (.int ((0 : Int32) ||| (1 : Int32)))]) (st' := [.int (a1 >>> ((1 : Int32) &&& 31)), .ref 2]) (s' := s) rfl ?_
      refine wpc_ldaZ (a := 1) (N := 8) (v := (gI s 2 (ix (a1 >>> ((1 : Int32) &&& 31))))) rfl rfl (by decide) h286.1 rfl ?_
      have h288 := h286.2
      refine wpc_if (a := 90) (b := 43) rfl (by decide) rfl rfl (wpc_br (p := (gI s 2 (ix (a1 >>> ((1 : Int32) &&& 31)))) = (0 : Int32)) ⟨fun hc289 => ?_, fun hc289 => ?_⟩)
      · have h290 := h288.1 hc289
        refine wpc_sl (n := 6) (c' := 11) (pc' := 91) (ls' := [some (.ref 0), some (.int a1), some (.int (a1 >>> ((1 : Int32) &&& 31))), some (.int (((0 : Int32) ||| (1 : Int32)) ||| (4 : Int32)))]) (st' := [.int (((0 : Int32) ||| (1 : Int32)) ||| (4 : Int32))]) (s' := s) rfl ?_
        exact wpc_ret rfl rfl (fun q => absurd q (by decide)) rfl ⟨(((0 : Int32) ||| (1 : Int32)) ||| (4 : Int32)), rfl, h290⟩
      · have h291 := h288.2 hc289
        refine wpc_sl (n := 1) (c' := 11) (pc' := 91) (ls' := [some (.ref 0), some (.int a1), some (.int (a1 >>> ((1 : Int32) &&& 31))), some (.int ((0 : Int32) ||| (1 : Int32)))]) (st' := [.int ((0 : Int32) ||| (1 : Int32))]) (s' := s) rfl ?_
        exact wpc_ret rfl rfl (fun q => absurd q (by decide)) rfl ⟨((0 : Int32) ||| (1 : Int32)), rfl, h291⟩
    · have h287 := h284.2 hc285
      refine wpc_sl (n := 3) (c' := 11) (pc' := 26) (ls' := [some (.ref 0), some (.int a1), some (.int (a1 >>> ((1 : Int32) &&& 31))), some (.int (0 : Int32))]) (st' := [.int (a1 >>> ((1 : Int32) &&& 31)), .ref 2]) (s' := s) rfl ?_
      refine wpc_ldaZ (a := 1) (N := 8) (v := (gI s 2 (ix (a1 >>> ((1 : Int32) &&& 31))))) rfl rfl (by decide) h287.1 rfl ?_
      have h292 := h287.2
      have hm294 : ∀ m293, m293 = (if (gI s 2 (ix (a1 >>> ((1 : Int32) &&& 31)))) = (0 : Int32) then ((0 : Int32) ||| (1 : Int32)) else (0 : Int32)) → wpcI PP 4 cm4 11 34 [some (.ref 0), some (.int a1), some (.int (a1 >>> ((1 : Int32) &&& 31))), some (.int m293)] [] s Q := by
        intro m293 em293
        have h295 := h292 m293 em293
        refine wpc_sl (n := 3) (c' := 11) (pc' := 39) (ls' := [some (.ref 0), some (.int a1), some (.int (a1 >>> ((1 : Int32) &&& 31))), some (.int m293)]) (st' := [.int (a1 >>> ((1 : Int32) &&& 31)), .ref 2]) (s' := s) rfl ?_
        refine wpc_ldaZ (a := 1) (N := 8) (v := (gI s 2 (ix (a1 >>> ((1 : Int32) &&& 31))))) rfl rfl (by decide) h295.1 rfl ?_
        have h296 := h295.2
        refine wpc_if (a := 90) (b := 43) rfl (by decide) rfl rfl (wpc_br (p := (gI s 2 (ix (a1 >>> ((1 : Int32) &&& 31)))) = (0 : Int32)) ⟨fun hc297 => ?_, fun hc297 => ?_⟩)
        · have h298 := h296.1 hc297
          refine wpc_sl (n := 6) (c' := 11) (pc' := 91) (ls' := [some (.ref 0), some (.int a1), some (.int (a1 >>> ((1 : Int32) &&& 31))), some (.int (m293 ||| (4 : Int32)))]) (st' := [.int (m293 ||| (4 : Int32))]) (s' := s) rfl ?_
          exact wpc_ret rfl rfl (fun q => absurd q (by decide)) rfl ⟨(m293 ||| (4 : Int32)), rfl, h298⟩
        · have h299 := h296.2 hc297
          refine wpc_sl (n := 1) (c' := 11) (pc' := 91) (ls' := [some (.ref 0), some (.int a1), some (.int (a1 >>> ((1 : Int32) &&& 31))), some (.int m293)]) (st' := [.int m293]) (s' := s) rfl ?_
          exact wpc_ret rfl rfl (fun q => absurd q (by decide)) rfl ⟨m293, rfl, h299⟩
      refine wpc_if (a := 34) (b := 30) rfl (by decide) rfl rfl (wpc_br (p := (gI s 2 (ix (a1 >>> ((1 : Int32) &&& 31)))) = (0 : Int32)) ⟨fun hc300 => ?_, fun hc300 => ?_⟩)
      · refine wpc_sl (n := 4) (c' := 11) (pc' := 34) (ls' := [some (.ref 0), some (.int a1), some (.int (a1 >>> ((1 : Int32) &&& 31))), some (.int ((0 : Int32) ||| (1 : Int32)))]) (st' := []) (s' := s) rfl ?_
        first | exact hm294 _ (by simp only [if_pos hc300]) | exact wpc_lle (by repeat (first | exact trivial | refine ⟨rfl, ?_⟩)) (hm294 _ (by simp only [if_pos hc300]))
      · first | exact hm294 _ (by simp only [if_neg hc300]) | exact wpc_lle (by repeat (first | exact trivial | refine ⟨rfl, ?_⟩)) (hm294 _ (by simp only [if_neg hc300]))
  · have h283 := h.2 hc281
    refine wpc_sl (n := 3) (c' := 11) (pc' := 55) (ls' := [some (.ref 0), some (.int a1), some (.int (a1 >>> ((1 : Int32) &&& 31))), some (.int (0 : Int32))]) (st' := [.int (a1 >>> ((1 : Int32) &&& 31)), .ref 5]) (s' := s) rfl ?_
    refine wpc_ldaI (a := 4) (N := 8) (v := (gI s 5 (ix (a1 >>> ((1 : Int32) &&& 31))))) rfl rfl (by decide) h283.1 rfl ?_
    have h301 := h283.2
    refine wpc_sl (n := 2) (c' := 11) (pc' := 60) (ls' := [some (.ref 0), some (.int a1), some (.int (a1 >>> ((1 : Int32) &&& 31))), some (.int (0 : Int32))]) (st' := [.int (gI s 0 18), .int (gI s 5 (ix (a1 >>> ((1 : Int32) &&& 31))))]) (s' := s) rfl ?_
    refine wpc_icmp (a := 72) (b := 63) rfl (by decide) rfl rfl (wpc_br (p := (gI s 5 (ix (a1 >>> ((1 : Int32) &&& 31)))) < (gI s 0 18)) ⟨fun hc302 => ?_, fun hc302 => ?_⟩)
    · have h303 := h301.1 hc302
      refine wpc_sl (n := 7) (c' := 11) (pc' := 81) (ls' := [some (.ref 0), some (.int a1), some (.int (a1 >>> ((1 : Int32) &&& 31))), some (.int ((0 : Int32) ||| (2 : Int32)))]) (st' := [.int (a1 >>> ((1 : Int32) &&& 31)), .ref 1]) (s' := s) rfl ?_
      refine wpc_ldaZ (a := 0) (N := 8) (v := (gI s 1 (ix (a1 >>> ((1 : Int32) &&& 31))))) rfl rfl (by decide) h303.1 rfl ?_
      have h305 := h303.2
      refine wpc_if (a := 90) (b := 85) rfl (by decide) rfl rfl (wpc_br (p := (gI s 1 (ix (a1 >>> ((1 : Int32) &&& 31)))) = (0 : Int32)) ⟨fun hc306 => ?_, fun hc306 => ?_⟩)
      · have h307 := h305.1 hc306
        refine wpc_sl (n := 5) (c' := 11) (pc' := 91) (ls' := [some (.ref 0), some (.int a1), some (.int (a1 >>> ((1 : Int32) &&& 31))), some (.int (((0 : Int32) ||| (2 : Int32)) ||| (8 : Int32)))]) (st' := [.int (((0 : Int32) ||| (2 : Int32)) ||| (8 : Int32))]) (s' := s) rfl ?_
        exact wpc_ret rfl rfl (fun q => absurd q (by decide)) rfl ⟨(((0 : Int32) ||| (2 : Int32)) ||| (8 : Int32)), rfl, h307⟩
      · have h308 := h305.2 hc306
        refine wpc_sl (n := 1) (c' := 11) (pc' := 91) (ls' := [some (.ref 0), some (.int a1), some (.int (a1 >>> ((1 : Int32) &&& 31))), some (.int ((0 : Int32) ||| (2 : Int32)))]) (st' := [.int ((0 : Int32) ||| (2 : Int32))]) (s' := s) rfl ?_
        exact wpc_ret rfl rfl (fun q => absurd q (by decide)) rfl ⟨((0 : Int32) ||| (2 : Int32)), rfl, h308⟩
    · have h304 := h301.2 hc302
      refine wpc_sl (n := 3) (c' := 11) (pc' := 68) (ls' := [some (.ref 0), some (.int a1), some (.int (a1 >>> ((1 : Int32) &&& 31))), some (.int (0 : Int32))]) (st' := [.int (a1 >>> ((1 : Int32) &&& 31)), .ref 1]) (s' := s) rfl ?_
      refine wpc_ldaZ (a := 0) (N := 8) (v := (gI s 1 (ix (a1 >>> ((1 : Int32) &&& 31))))) rfl rfl (by decide) h304.1 rfl ?_
      have h309 := h304.2
      have hm311 : ∀ m310, m310 = (if (gI s 1 (ix (a1 >>> ((1 : Int32) &&& 31)))) = (0 : Int32) then ((0 : Int32) ||| (2 : Int32)) else (0 : Int32)) → wpcI PP 4 cm4 11 76 [some (.ref 0), some (.int a1), some (.int (a1 >>> ((1 : Int32) &&& 31))), some (.int m310)] [] s Q := by
        intro m310 em310
        have h312 := h309 m310 em310
        refine wpc_sl (n := 3) (c' := 11) (pc' := 81) (ls' := [some (.ref 0), some (.int a1), some (.int (a1 >>> ((1 : Int32) &&& 31))), some (.int m310)]) (st' := [.int (a1 >>> ((1 : Int32) &&& 31)), .ref 1]) (s' := s) rfl ?_
        refine wpc_ldaZ (a := 0) (N := 8) (v := (gI s 1 (ix (a1 >>> ((1 : Int32) &&& 31))))) rfl rfl (by decide) h312.1 rfl ?_
        have h313 := h312.2
        refine wpc_if (a := 90) (b := 85) rfl (by decide) rfl rfl (wpc_br (p := (gI s 1 (ix (a1 >>> ((1 : Int32) &&& 31)))) = (0 : Int32)) ⟨fun hc314 => ?_, fun hc314 => ?_⟩)
        · have h315 := h313.1 hc314
          refine wpc_sl (n := 5) (c' := 11) (pc' := 91) (ls' := [some (.ref 0), some (.int a1), some (.int (a1 >>> ((1 : Int32) &&& 31))), some (.int (m310 ||| (8 : Int32)))]) (st' := [.int (m310 ||| (8 : Int32))]) (s' := s) rfl ?_
          exact wpc_ret rfl rfl (fun q => absurd q (by decide)) rfl ⟨(m310 ||| (8 : Int32)), rfl, h315⟩
        · have h316 := h313.2 hc314
          refine wpc_sl (n := 1) (c' := 11) (pc' := 91) (ls' := [some (.ref 0), some (.int a1), some (.int (a1 >>> ((1 : Int32) &&& 31))), some (.int m310)]) (st' := [.int m310]) (s' := s) rfl ?_
          exact wpc_ret rfl rfl (fun q => absurd q (by decide)) rfl ⟨m310, rfl, h316⟩
      refine wpc_if (a := 76) (b := 72) rfl (by decide) rfl rfl (wpc_br (p := (gI s 1 (ix (a1 >>> ((1 : Int32) &&& 31)))) = (0 : Int32)) ⟨fun hc317 => ?_, fun hc317 => ?_⟩)
      · refine wpc_sl (n := 4) (c' := 11) (pc' := 76) (ls' := [some (.ref 0), some (.int a1), some (.int (a1 >>> ((1 : Int32) &&& 31))), some (.int ((0 : Int32) ||| (2 : Int32)))]) (st' := []) (s' := s) rfl ?_
        first | exact hm311 _ (by simp only [if_pos hc317]) | exact wpc_lle (by repeat (first | exact trivial | refine ⟨rfl, ?_⟩)) (hm311 _ (by simp only [if_pos hc317]))
      · first | exact hm311 _ (by simp only [if_neg hc317]) | exact wpc_lle (by repeat (first | exact trivial | refine ⟨rfl, ?_⟩)) (hm311 _ (by simp only [if_neg hc317]))
theorem c27_in (a1 : Int32) (s : St) (Q : Int32 → St → Prop) (h : calI PP 3 11 [.ref 0, .int a1] s (fun v262 s261 => ((v262 = (0 : Int32)) → Q (-1 : Int32) s261) ∧ (¬ (v262 = (0 : Int32)) → calI PP 4 11 [.ref 0, .int a1] s261 (fun v268 s267 => Q v268 s267)))) : calI PP 27 11 [.ref 0, .int a1] s Q := by
  refine cal_of (me := cm27) (ls := [some (.ref 0), some (.int a1)]) rfl (Nat.le_of_ble_eq_true rfl) rfl ?_
  refine wpc_sl (n := 2) (c' := 11) (pc' := 2) (ls' := [some (.ref 0), some (.int a1)]) (st' := [.int a1, .ref 0]) (s' := s) rfl ?_
  refine wpc_callI (m' := 3) (me' := cm3) (as := [.int a1]) (r := []) rfl rfl rfl rfl rfl ⟨by decide, (by first | decide | exact Nat.le_of_ble_eq_true rfl), (by first | decide | exact Nat.le_of_ble_eq_true rfl), rfl⟩ (calI.mono h fun v262 s261 h263 => ?_)
  refine wpc_if (a := 10) (b := 8) rfl (by decide) rfl rfl (wpc_br (p := v262 = (0 : Int32)) ⟨fun hc264 => ?_, fun hc264 => ?_⟩)
  · have h265 := h263.1 hc264
    refine wpc_sl (n := 1) (c' := 11) (pc' := 9) (ls' := [some (.ref 0), some (.int a1)]) (st' := [.int (-1 : Int32)]) (s' := s261) rfl ?_
    exact wpc_ret rfl rfl (fun q => absurd q (by decide)) rfl ⟨(-1 : Int32), rfl, h265⟩
  · have h266 := h263.2 hc264
    refine wpc_sl (n := 2) (c' := 11) (pc' := 12) (ls' := [some (.ref 0), some (.int a1)]) (st' := [.int a1, .ref 0]) (s' := s261) rfl ?_
    refine wpc_callI (m' := 4) (me' := cm4) (as := [.int a1]) (r := []) rfl rfl rfl rfl rfl ⟨by decide, (by first | decide | exact Nat.le_of_ble_eq_true rfl), (by first | decide | exact Nat.le_of_ble_eq_true rfl), rfl⟩ (calI.mono h266 fun v268 s267 h269 => ?_)
    exact wpc_ret rfl rfl (fun q => absurd q (by decide)) rfl ⟨v268, rfl, h269⟩
theorem l4r1W1_in (N : Nat) (sg : Nat → Int32) (a1 : Int32) (s : St) (Q : Int32 → Wd → Prop) (h : calI PP 27 11 [.ref 0, .int a1] s (fun v256 s255 => ((v256 < (0 : Int32)) → Q (0 : Int32) (W1 s255)) ∧ (¬ (v256 < (0 : Int32)) → Q (v256 &&& (15 : Int32)) (W1 s255)))) : lalI PP QQ (some (N, sg)) 4 [.ref 1, .int a1] (W1 s) Q := by
  refine lal_of (me := lm4) (ls := [some (.ref 1), some (.int a1), none]) rfl (Nat.le_of_ble_eq_true rfl) rfl ?_
  refine wpl_sl (n := 2) (pc' := 2) (ls' := [some (.ref 1), some (.int a1), none]) (st' := [.int a1, .ref 1]) rfl ?_
  refine wpl_v1 (m' := 27) (me' := cm27) (as := [.int a1]) (r := []) rfl rfl rfl rfl rfl ⟨by decide, (by first | decide | exact Nat.le_of_ble_eq_true rfl), (by first | decide | exact Nat.le_of_ble_eq_true rfl), rfl⟩ (cal_I (calI.mono h fun v256 s255 h257 => ?_))
  refine wpl_sl (n := 2) (pc' := 7) (ls' := [some (.ref 1), some (.int a1), some (.int v256)]) (st' := [.int v256]) rfl ?_
  refine wpl_if (a := 14) (b := 10) rfl (by decide) rfl rfl (wpl_br (p := v256 < (0 : Int32)) ⟨fun hc258 => ?_, fun hc258 => ?_⟩)
  · have h259 := h257.1 hc258
    refine wpl_sl (n := 2) (pc' := 18) (ls' := [some (.ref 1), some (.int a1), some (.int v256)]) (st' := [.int (0 : Int32)]) rfl ?_
    exact wpl_ret rfl rfl rfl ⟨(0 : Int32), rfl, h259⟩
  · have h260 := h257.2 hc258
    refine wpl_sl (n := 3) (pc' := 18) (ls' := [some (.ref 1), some (.int a1), some (.int v256)]) (st' := [.int (v256 &&& (15 : Int32))]) rfl ?_
    exact wpl_ret rfl rfl rfl ⟨(v256 &&& (15 : Int32)), rfl, h260⟩
theorem l5r1W1_in (N : Nat) (sg : Nat → Int32)  (s : St) (Q : Int32 → Wd → Prop) (h : wplI PP QQ (some (N, sg)) 5 lm5 4 [some (.ref 1), some (.int (0 : Int32)), some (.int (0 : Int32))] [] (W1 s) Q) : lalI PP QQ (some (N, sg)) 5 [.ref 1] (W1 s) Q := by
  refine lal_of (me := lm5) (ls := [some (.ref 1), none, none]) rfl (Nat.le_of_ble_eq_true rfl) rfl ?_
  refine wpl_sl (n := 4) (pc' := 4) (ls' := [some (.ref 1), some (.int (0 : Int32)), some (.int (0 : Int32))]) (st' := []) rfl ?_
  exact h
theorem l5r1W1_4 (N : Nat) (sg : Nat → Int32) (x1 : Int32) (x2 : Int32) (s : St) (Q : Int32 → Wd → Prop) (h : ((x2 < (4 : Int32)) → lalI PP QQ (some (N, sg)) 4 [.ref 1, .int x2] (W1 s) (fun v252 w251 => ∃ s254, w251 = W1 s254 ∧ (wplI PP QQ (some (N, sg)) 5 lm5 4 [some (.ref 1), some (.int (x1 ||| (v252 <<< (((4 : Int32) * x2) &&& 31)))), some (.int (x2 + (1 : Int32)))] [] (W1 s254) Q))) ∧ (¬ (x2 < (4 : Int32)) → Q x1 (W1 s))) : wplI PP QQ (some (N, sg)) 5 lm5 4 [some (.ref 1), some (.int x1), some (.int x2)] [] (W1 s) Q := by
  refine wpl_sl (n := 2) (pc' := 6) (ls' := [some (.ref 1), some (.int x1), some (.int x2)]) (st' := [.int (4 : Int32), .int x2]) rfl ?_
  refine wpl_icmp (a := 27) (b := 9) rfl (by decide) rfl rfl (wpl_br (p := x2 < (4 : Int32)) ⟨fun hc248 => ?_, fun hc248 => ?_⟩)
  · have h249 := h.1 hc248
    refine wpl_sl (n := 3) (pc' := 12) (ls' := [some (.ref 1), some (.int x1), some (.int x2)]) (st' := [.int x2, .ref 1, .int x1]) rfl ?_
    refine wpl_stat (m' := 4) (me' := lm4) (as := [.ref 1, .int x2]) (r := [.int x1]) rfl rfl rfl rfl rfl ⟨(by first | decide | exact Nat.le_of_ble_eq_true rfl), (by first | decide | exact Nat.le_of_ble_eq_true rfl), (by first | decide | exact Nat.le_of_ble_eq_true rfl), (by first | decide | exact Nat.le_of_ble_eq_true rfl), rfl⟩ (lal_I (lalI.mono h249 fun v252 w251 hh => ?_))
    obtain ⟨s254, rfl, h253⟩ := hh
    refine wpl_sl (n := 8) (pc' := 4) (ls' := [some (.ref 1), some (.int (x1 ||| (v252 <<< (((4 : Int32) * x2) &&& 31)))), some (.int (x2 + (1 : Int32)))]) (st' := []) rfl ?_
    exact h253
  · have h250 := h.2 hc248
    refine wpl_sl (n := 1) (pc' := 28) (ls' := [some (.ref 1), some (.int x1), some (.int x2)]) (st' := [.int x1]) rfl ?_
    exact wpl_ret rfl rfl rfl ⟨x1, rfl, h250⟩
theorem c15_in  (s : St) (Q : Int32 → St → Prop) (h : wpcI PP 15 cm15 11 2 [some (.ref 0), some (.int (0 : Int32))] [] s Q) : calI PP 15 11 [.ref 0] s Q := by
  refine cal_of (me := cm15) (ls := [some (.ref 0), none]) rfl (Nat.le_of_ble_eq_true rfl) rfl ?_
  refine wpc_sl (n := 2) (c' := 11) (pc' := 2) (ls' := [some (.ref 0), some (.int (0 : Int32))]) (st' := []) (s' := s) rfl ?_
  exact h
theorem c15_2 (x1 : Int32) (s : St) (Q : Int32 → St → Prop) (h : ((x1 < (gI s 0 17)) → inb 8 x1 ∧ (((gI s 1 (ix x1)) = (0 : Int32)) → inb 8 x1 ∧ (((gI s 2 (ix x1)) = (0 : Int32)) → inb 8 x1 ∧ inb 8 x1 ∧ inb 8 x1 ∧ inb 8 x1 ∧ Q x1 (sI (sI (sI (sI s 1 (ix x1) (1 : Int32)) 2 (ix x1) (1 : Int32)) 4 (ix x1) (0 : Int32)) 5 (ix x1) (0 : Int32))) ∧ (¬ ((gI s 2 (ix x1)) = (0 : Int32)) → wpcI PP 15 cm15 11 58 [some (.ref 0), some (.int x1)] [] s Q)) ∧ (¬ ((gI s 1 (ix x1)) = (0 : Int32)) → wpcI PP 15 cm15 11 58 [some (.ref 0), some (.int x1)] [] s Q)) ∧ (¬ (x1 < (gI s 0 17)) → Q (-8 : Int32) s)) : wpcI PP 15 cm15 11 2 [some (.ref 0), some (.int x1)] [] s Q := by
  refine wpc_sl (n := 3) (c' := 11) (pc' := 7) (ls' := [some (.ref 0), some (.int x1)]) (st' := [.int (gI s 0 17), .int x1]) (s' := s) rfl ?_
  refine wpc_icmp (a := 64) (b := 10) rfl (by decide) rfl rfl (wpc_br (p := x1 < (gI s 0 17)) ⟨fun hc318 => ?_, fun hc318 => ?_⟩)
  · have h319 := h.1 hc318
    refine wpc_sl (n := 3) (c' := 11) (pc' := 15) (ls' := [some (.ref 0), some (.int x1)]) (st' := [.int x1, .ref 1]) (s' := s) rfl ?_
    refine wpc_ldaZ (a := 0) (N := 8) (v := (gI s 1 (ix x1))) rfl rfl (by decide) h319.1 rfl ?_
    have h321 := h319.2
    refine wpc_if (a := 58) (b := 19) rfl (by decide) rfl rfl (wpc_br (p := (gI s 1 (ix x1)) = (0 : Int32)) ⟨fun hc322 => ?_, fun hc322 => ?_⟩)
    · have h323 := h321.1 hc322
      refine wpc_sl (n := 3) (c' := 11) (pc' := 24) (ls' := [some (.ref 0), some (.int x1)]) (st' := [.int x1, .ref 2]) (s' := s) rfl ?_
      refine wpc_ldaZ (a := 1) (N := 8) (v := (gI s 2 (ix x1))) rfl rfl (by decide) h323.1 rfl ?_
      have h325 := h323.2
      refine wpc_if (a := 58) (b := 28) rfl (by decide) rfl rfl (wpc_br (p := (gI s 2 (ix x1)) = (0 : Int32)) ⟨fun hc326 => ?_, fun hc326 => ?_⟩)
      · have h327 := h325.1 hc326
        refine wpc_sl (n := 4) (c' := 11) (pc' := 34) (ls' := [some (.ref 0), some (.int x1)]) (st' := [.int (1 : Int32), .int x1, .ref 1]) (s' := s) rfl ?_
        refine wpc_staZ (a := 0) (N := 8) (s' := (sI s 1 (ix x1) (1 : Int32))) rfl rfl (by decide) h327.1 rfl ?_
        have h329 := h327.2
        refine wpc_sl (n := 4) (c' := 11) (pc' := 41) (ls' := [some (.ref 0), some (.int x1)]) (st' := [.int (1 : Int32), .int x1, .ref 2]) (s' := (sI s 1 (ix x1) (1 : Int32))) rfl ?_
        refine wpc_staZ (a := 1) (N := 8) (s' := (sI (sI s 1 (ix x1) (1 : Int32)) 2 (ix x1) (1 : Int32))) rfl rfl (by decide) h329.1 rfl ?_
        have h330 := h329.2
        refine wpc_sl (n := 4) (c' := 11) (pc' := 48) (ls' := [some (.ref 0), some (.int x1)]) (st' := [.int (0 : Int32), .int x1, .ref 4]) (s' := (sI (sI s 1 (ix x1) (1 : Int32)) 2 (ix x1) (1 : Int32))) rfl ?_
        refine wpc_staI (a := 3) (N := 8) (s' := (sI (sI (sI s 1 (ix x1) (1 : Int32)) 2 (ix x1) (1 : Int32)) 4 (ix x1) (0 : Int32))) rfl rfl (by decide) h330.1 rfl ?_
        have h331 := h330.2
        refine wpc_sl (n := 4) (c' := 11) (pc' := 55) (ls' := [some (.ref 0), some (.int x1)]) (st' := [.int (0 : Int32), .int x1, .ref 5]) (s' := (sI (sI (sI s 1 (ix x1) (1 : Int32)) 2 (ix x1) (1 : Int32)) 4 (ix x1) (0 : Int32))) rfl ?_
        refine wpc_staI (a := 4) (N := 8) (s' := (sI (sI (sI (sI s 1 (ix x1) (1 : Int32)) 2 (ix x1) (1 : Int32)) 4 (ix x1) (0 : Int32)) 5 (ix x1) (0 : Int32))) rfl rfl (by decide) h331.1 rfl ?_
        have h332 := h331.2
        refine wpc_sl (n := 1) (c' := 11) (pc' := 57) (ls' := [some (.ref 0), some (.int x1)]) (st' := [.int x1]) (s' := (sI (sI (sI (sI s 1 (ix x1) (1 : Int32)) 2 (ix x1) (1 : Int32)) 4 (ix x1) (0 : Int32)) 5 (ix x1) (0 : Int32))) rfl ?_
        exact wpc_ret rfl rfl (fun q => absurd q (by decide)) rfl ⟨x1, rfl, h332⟩
      · have h328 := h325.2 hc326
        exact h328
    · have h324 := h321.2 hc322
      exact h324
  · have h320 := h.2 hc318
    refine wpc_sl (n := 1) (c' := 11) (pc' := 66) (ls' := [some (.ref 0), some (.int x1)]) (st' := [.int (-8 : Int32)]) (s' := s) rfl ?_
    exact wpc_ret rfl rfl (fun q => absurd q (by decide)) rfl ⟨(-8 : Int32), rfl, h320⟩
theorem c15_58 (x1 : Int32) (s : St) (Q : Int32 → St → Prop) (h : wpcI PP 15 cm15 11 2 [some (.ref 0), some (.int (x1 + (1 : Int32)))] [] s Q) : wpcI PP 15 cm15 11 58 [some (.ref 0), some (.int x1)] [] s Q := by
  refine wpc_sl (n := 2) (c' := 11) (pc' := 2) (ls' := [some (.ref 0), some (.int (x1 + (1 : Int32)))]) (st' := []) (s' := s) rfl ?_
  exact h
theorem c8_in (a1 : Int32) (a2 : Int32) (s : St) (Q : Int32 → St → Prop) (h : Q ((a1 * (16 : Int32)) + a2) s) : calI PP 8 11 [.ref 0, .int a1, .int a2] s Q := by
  refine cal_of (me := cm8) (ls := [some (.ref 0), some (.int a1), some (.int a2)]) rfl (Nat.le_of_ble_eq_true rfl) rfl ?_
  refine wpc_sl (n := 5) (c' := 11) (pc' := 6) (ls' := [some (.ref 0), some (.int a1), some (.int a2)]) (st' := [.int ((a1 * (16 : Int32)) + a2)]) (s' := s) rfl ?_
  exact wpc_ret rfl rfl (fun q => absurd q (by decide)) rfl ⟨((a1 * (16 : Int32)) + a2), rfl, h⟩
theorem c11_in (a1 : Int32) (s : St) (Q : St → Prop) (h : inb 64 a1 ∧ inb 64 a1 ∧ inb 64 a1 ∧ inb 64 a1 ∧ Q (sI (sI (sI (sI s 6 (ix a1) (0 : Int32)) 7 (ix a1) (0 : Int32)) 8 (ix a1) (0 : Int32)) 9 (ix a1) (0 : Int32))) : calV PP 11 11 [.ref 0, .int a1] s Q := by
  refine cal_of (me := cm11) (ls := [some (.ref 0), some (.int a1)]) rfl (Nat.le_of_ble_eq_true rfl) rfl ?_
  refine wpc_sl (n := 4) (c' := 11) (pc' := 6) (ls' := [some (.ref 0), some (.int a1)]) (st' := [.int (0 : Int32), .int a1, .ref 6]) (s' := s) rfl ?_
  refine wpc_staZ (a := 5) (N := 64) (s' := (sI s 6 (ix a1) (0 : Int32))) rfl rfl (by decide) h.1 rfl ?_
  have h368 := h.2
  refine wpc_sl (n := 4) (c' := 11) (pc' := 13) (ls' := [some (.ref 0), some (.int a1)]) (st' := [.int (0 : Int32), .int a1, .ref 7]) (s' := (sI s 6 (ix a1) (0 : Int32))) rfl ?_
  refine wpc_staI (a := 6) (N := 64) (s' := (sI (sI s 6 (ix a1) (0 : Int32)) 7 (ix a1) (0 : Int32))) rfl rfl (by decide) h368.1 rfl ?_
  have h369 := h368.2
  refine wpc_sl (n := 4) (c' := 11) (pc' := 20) (ls' := [some (.ref 0), some (.int a1)]) (st' := [.int (0 : Int32), .int a1, .ref 8]) (s' := (sI (sI s 6 (ix a1) (0 : Int32)) 7 (ix a1) (0 : Int32))) rfl ?_
  refine wpc_staZ (a := 7) (N := 64) (s' := (sI (sI (sI s 6 (ix a1) (0 : Int32)) 7 (ix a1) (0 : Int32)) 8 (ix a1) (0 : Int32))) rfl rfl (by decide) h369.1 rfl ?_
  have h370 := h369.2
  refine wpc_sl (n := 4) (c' := 11) (pc' := 27) (ls' := [some (.ref 0), some (.int a1)]) (st' := [.int (0 : Int32), .int a1, .ref 9]) (s' := (sI (sI (sI s 6 (ix a1) (0 : Int32)) 7 (ix a1) (0 : Int32)) 8 (ix a1) (0 : Int32))) rfl ?_
  refine wpc_staI (a := 8) (N := 64) (s' := (sI (sI (sI (sI s 6 (ix a1) (0 : Int32)) 7 (ix a1) (0 : Int32)) 8 (ix a1) (0 : Int32)) 9 (ix a1) (0 : Int32))) rfl rfl (by decide) h370.1 rfl ?_
  have h371 := h370.2
  exact wpc_ret rfl rfl (fun q => absurd q (by decide)) rfl ⟨rfl, h371⟩
theorem c12_in (a1 : Int32) (s : St) (Q : St → Prop) (h : wpcV PP 12 cm12 11 2 [some (.ref 0), some (.int a1), some (.int (0 : Int32))] [] s Q) : calV PP 12 11 [.ref 0, .int a1] s Q := by
  refine cal_of (me := cm12) (ls := [some (.ref 0), some (.int a1), none]) rfl (Nat.le_of_ble_eq_true rfl) rfl ?_
  refine wpc_sl (n := 2) (c' := 11) (pc' := 2) (ls' := [some (.ref 0), some (.int a1), some (.int (0 : Int32))]) (st' := []) (s' := s) rfl ?_
  exact h
theorem c12_2 (x1 : Int32) (x2 : Int32) (s : St) (Q : St → Prop) (h : ((x2 < (gI s 0 19)) → calI PP 8 11 [.ref 0, .int x2, .int x1] s (fun v363 s362 => calV PP 11 11 [.ref 0, .int v363] s362 (fun s365 => wpcV PP 12 cm12 11 2 [some (.ref 0), some (.int x1), some (.int (x2 + (1 : Int32)))] [] s365 Q))) ∧ (¬ (x2 < (gI s 0 19)) → Q s)) : wpcV PP 12 cm12 11 2 [some (.ref 0), some (.int x1), some (.int x2)] [] s Q := by
  refine wpc_sl (n := 3) (c' := 11) (pc' := 7) (ls' := [some (.ref 0), some (.int x1), some (.int x2)]) (st' := [.int (gI s 0 19), .int x2]) (s' := s) rfl ?_
  refine wpc_icmp (a := 26) (b := 10) rfl (by decide) rfl rfl (wpc_br (p := x2 < (gI s 0 19)) ⟨fun hc359 => ?_, fun hc359 => ?_⟩)
  · have h360 := h.1 hc359
    refine wpc_sl (n := 4) (c' := 11) (pc' := 14) (ls' := [some (.ref 0), some (.int x1), some (.int x2)]) (st' := [.int x1, .int x2, .ref 0, .ref 0]) (s' := s) rfl ?_
    refine wpc_callI (m' := 8) (me' := cm8) (as := [.int x2, .int x1]) (r := [.ref 0]) rfl rfl rfl rfl rfl ⟨by decide, (by first | decide | exact Nat.le_of_ble_eq_true rfl), (by first | decide | exact Nat.le_of_ble_eq_true rfl), rfl⟩ (calI.mono h360 fun v363 s362 h364 => ?_)
    refine wpc_callV (m' := 11) (me' := cm11) (as := [.int v363]) (r := []) rfl rfl rfl rfl rfl ⟨by decide, (by first | decide | exact Nat.le_of_ble_eq_true rfl), (by first | decide | exact Nat.le_of_ble_eq_true rfl), rfl⟩ (calV.mono h364 fun s365 h367 => ?_)
    refine wpc_sl (n := 2) (c' := 11) (pc' := 2) (ls' := [some (.ref 0), some (.int x1), some (.int (x2 + (1 : Int32)))]) (st' := []) (s' := s365) rfl ?_
    exact h367
  · have h361 := h.2 hc359
    exact wpc_ret rfl rfl (fun q => absurd q (by decide)) rfl ⟨rfl, h361⟩
theorem c5_in (a1 : Int32) (s : St) (Q : Int32 → St → Prop) (h : Q (((a1 &&& (3 : Int32)) ||| (4 : Int32)) ||| (8 : Int32)) s) : calI PP 5 11 [.ref 0, .int a1] s Q := by
  refine cal_of (me := cm5) (ls := [some (.ref 0), some (.int a1)]) rfl (Nat.le_of_ble_eq_true rfl) rfl ?_
  refine wpc_sl (n := 7) (c' := 11) (pc' := 8) (ls' := [some (.ref 0), some (.int a1)]) (st' := [.int (((a1 &&& (3 : Int32)) ||| (4 : Int32)) ||| (8 : Int32))]) (s' := s) rfl ?_
  exact wpc_ret rfl rfl (fun q => absurd q (by decide)) rfl ⟨(((a1 &&& (3 : Int32)) ||| (4 : Int32)) ||| (8 : Int32)), rfl, h⟩
theorem c13_in (a1 : Int32) (a2 : Int32) (s : St) (Q : St → Prop) (h : calI PP 3 11 [.ref 0, .int a1] s (fun v373 s372 => ((v373 = (0 : Int32)) → Q s372) ∧ (¬ (v373 = (0 : Int32)) → calI PP 4 11 [.ref 0, .int a1] s372 (fun v379 s378 => wpcV PP 13 cm13 11 18 [some (.ref 0), some (.int a1), some (.int a2), some (.int v379), some (.int (0 : Int32)), none, none] [] s378 Q)))) : calV PP 13 11 [.ref 0, .int a1, .int a2] s Q := by
  refine cal_of (me := cm13) (ls := [some (.ref 0), some (.int a1), some (.int a2), none, none, none, none]) rfl (Nat.le_of_ble_eq_true rfl) rfl ?_
  refine wpc_sl (n := 2) (c' := 11) (pc' := 2) (ls' := [some (.ref 0), some (.int a1), some (.int a2), none, none, none, none]) (st' := [.int a1, .ref 0]) (s' := s) rfl ?_
  refine wpc_callI (m' := 3) (me' := cm3) (as := [.int a1]) (r := []) rfl rfl rfl rfl rfl ⟨by decide, (by first | decide | exact Nat.le_of_ble_eq_true rfl), (by first | decide | exact Nat.le_of_ble_eq_true rfl), rfl⟩ (calI.mono h fun v373 s372 h374 => ?_)
  refine wpc_if (a := 9) (b := 8) rfl (by decide) rfl rfl (wpc_br (p := v373 = (0 : Int32)) ⟨fun hc375 => ?_, fun hc375 => ?_⟩)
  · have h376 := h374.1 hc375
    exact wpc_ret rfl rfl (fun q => absurd q (by decide)) rfl ⟨rfl, h376⟩
  · have h377 := h374.2 hc375
    refine wpc_sl (n := 2) (c' := 11) (pc' := 11) (ls' := [some (.ref 0), some (.int a1), some (.int a2), none, none, none, none]) (st' := [.int a1, .ref 0]) (s' := s372) rfl ?_
    refine wpc_callI (m' := 4) (me' := cm4) (as := [.int a1]) (r := []) rfl rfl rfl rfl rfl ⟨by decide, (by first | decide | exact Nat.le_of_ble_eq_true rfl), (by first | decide | exact Nat.le_of_ble_eq_true rfl), rfl⟩ (calI.mono h377 fun v379 s378 h380 => ?_)
    refine wpc_sl (n := 3) (c' := 11) (pc' := 18) (ls' := [some (.ref 0), some (.int a1), some (.int a2), some (.int v379), some (.int (0 : Int32)), none, none]) (st' := []) (s' := s378) rfl ?_
    exact h380
theorem c13_18 (x1 : Int32) (x2 : Int32) (x3 : Int32) (x4 : Int32) (s : St) (Q : St → Prop) (h : ((x4 < (gI s 0 19)) → calI PP 8 11 [.ref 0, .int x4, .int x1] s (fun v385 s384 => inb 64 v385 ∧ (((gI s384 6 (ix v385)) = (0 : Int32)) → wpcV PP 13 cm13 11 107 [some (.ref 0), some (.int x1), some (.int x2), some (.int x3), some (.int x4), none, none] [] s384 Q) ∧ (¬ ((gI s384 6 (ix v385)) = (0 : Int32)) → inb 64 v385 ∧ (((gI s384 8 (ix v385)) = (0 : Int32)) → wpcV PP 13 cm13 11 107 [some (.ref 0), some (.int x1), some (.int x2), some (.int x3), some (.int x4), none, none] [] s384 Q) ∧ (¬ ((gI s384 8 (ix v385)) = (0 : Int32)) → inb 64 v385 ∧ ((((gI s384 7 (ix v385)) &&& (16 : Int32)) = (0 : Int32)) → wpcV PP 13 cm13 11 107 [some (.ref 0), some (.int x1), some (.int x2), some (.int x3), some (.int x4), none, none] [] s384 Q) ∧ (¬ (((gI s384 7 (ix v385)) &&& (16 : Int32)) = (0 : Int32)) → inb 64 v385 ∧ calI PP 5 11 [.ref 0, .int (gI s384 7 (ix v385))] s384 (fun v401 s400 => inb 64 v385 ∧ inb 64 v385 ∧ wpcV PP 13 cm13 11 107 [some (.ref 0), some (.int x1), some (.int x2), some (.int x3), some (.int x4), none, none] [] (sI s400 9 (ix v385) (((gI s400 9 (ix v385)) &&& x3) ||| ((x3 &&& (x2 ^^^ (-1 : Int32))) &&& v401))) Q)))))) ∧ (¬ (x4 < (gI s 0 19)) → Q s)) : wpcV PP 13 cm13 11 18 [some (.ref 0), some (.int x1), some (.int x2), some (.int x3), some (.int x4), none, none] [] s Q := by
  refine wpc_sl (n := 3) (c' := 11) (pc' := 24) (ls' := [some (.ref 0), some (.int x1), some (.int x2), some (.int x3), some (.int x4), none, none]) (st' := [.int (gI s 0 19), .int x4]) (s' := s) rfl ?_
  refine wpc_icmp (a := 113) (b := 27) rfl (by decide) rfl rfl (wpc_br (p := x4 < (gI s 0 19)) ⟨fun hc381 => ?_, fun hc381 => ?_⟩)
  · have h382 := h.1 hc381
    refine wpc_sl (n := 3) (c' := 11) (pc' := 31) (ls' := [some (.ref 0), some (.int x1), some (.int x2), some (.int x3), some (.int x4), none, none]) (st' := [.int x1, .int x4, .ref 0]) (s' := s) rfl ?_
    refine wpc_callI (m' := 8) (me' := cm8) (as := [.int x4, .int x1]) (r := []) rfl rfl rfl rfl rfl ⟨by decide, (by first | decide | exact Nat.le_of_ble_eq_true rfl), (by first | decide | exact Nat.le_of_ble_eq_true rfl), rfl⟩ (calI.mono h382 fun v385 s384 h386 => ?_)
    refine wpc_sl (n := 4) (c' := 11) (pc' := 42) (ls' := [some (.ref 0), some (.int x1), some (.int x2), some (.int x3), some (.int x4), some (.int v385), none]) (st' := [.int v385, .ref 6]) (s' := s384) rfl ?_
    refine wpc_ldaZ (a := 5) (N := 64) (v := (gI s384 6 (ix v385))) rfl rfl (by decide) h386.1 rfl ?_
    have h387 := h386.2
    refine wpc_if (a := 107) (b := 46) rfl (by decide) rfl rfl (wpc_br (p := (gI s384 6 (ix v385)) = (0 : Int32)) ⟨fun hc388 => ?_, fun hc388 => ?_⟩)
    · have h389 := h387.1 hc388
      exact wpc_lle (ls := [some (.ref 0), some (.int x1), some (.int x2), some (.int x3), some (.int x4), none, none]) ⟨rfl, rfl, rfl, rfl, rfl, trivial⟩ h389
    · have h390 := h387.2 hc388
      refine wpc_sl (n := 3) (c' := 11) (pc' := 52) (ls' := [some (.ref 0), some (.int x1), some (.int x2), some (.int x3), some (.int x4), some (.int v385), none]) (st' := [.int v385, .ref 8]) (s' := s384) rfl ?_
      refine wpc_ldaZ (a := 7) (N := 64) (v := (gI s384 8 (ix v385))) rfl rfl (by decide) h390.1 rfl ?_
      have h391 := h390.2
      refine wpc_if (a := 107) (b := 56) rfl (by decide) rfl rfl (wpc_br (p := (gI s384 8 (ix v385)) = (0 : Int32)) ⟨fun hc392 => ?_, fun hc392 => ?_⟩)
      · have h393 := h391.1 hc392
        exact wpc_lle (ls := [some (.ref 0), some (.int x1), some (.int x2), some (.int x3), some (.int x4), none, none]) ⟨rfl, rfl, rfl, rfl, rfl, trivial⟩ h393
      · have h394 := h391.2 hc392
        refine wpc_sl (n := 3) (c' := 11) (pc' := 62) (ls' := [some (.ref 0), some (.int x1), some (.int x2), some (.int x3), some (.int x4), some (.int v385), none]) (st' := [.int v385, .ref 7]) (s' := s384) rfl ?_
        refine wpc_ldaI (a := 6) (N := 64) (v := (gI s384 7 (ix v385))) rfl rfl (by decide) h394.1 rfl ?_
        have h395 := h394.2
        refine wpc_sl (n := 2) (c' := 11) (pc' := 66) (ls' := [some (.ref 0), some (.int x1), some (.int x2), some (.int x3), some (.int x4), some (.int v385), none]) (st' := [.int ((gI s384 7 (ix v385)) &&& (16 : Int32))]) (s' := s384) rfl ?_
        refine wpc_if (a := 107) (b := 69) rfl (by decide) rfl rfl (wpc_br (p := ((gI s384 7 (ix v385)) &&& (16 : Int32)) = (0 : Int32)) ⟨fun hc396 => ?_, fun hc396 => ?_⟩)
        · have h397 := h395.1 hc396
          exact wpc_lle (ls := [some (.ref 0), some (.int x1), some (.int x2), some (.int x3), some (.int x4), none, none]) ⟨rfl, rfl, rfl, rfl, rfl, trivial⟩ h397
        · have h398 := h395.2 hc396
          refine wpc_sl (n := 4) (c' := 11) (pc' := 76) (ls' := [some (.ref 0), some (.int x1), some (.int x2), some (.int x3), some (.int x4), some (.int v385), none]) (st' := [.int v385, .ref 7, .ref 0]) (s' := s384) rfl ?_
          refine wpc_ldaI (a := 6) (N := 64) (v := (gI s384 7 (ix v385))) rfl rfl (by decide) h398.1 rfl ?_
          have h399 := h398.2
          refine wpc_callI (m' := 5) (me' := cm5) (as := [.int (gI s384 7 (ix v385))]) (r := []) rfl rfl rfl rfl rfl ⟨by decide, (by first | decide | exact Nat.le_of_ble_eq_true rfl), (by first | decide | exact Nat.le_of_ble_eq_true rfl), rfl⟩ (calI.mono h399 fun v401 s400 h402 => ?_)
          refine wpc_sl (n := 7) (c' := 11) (pc' := 94) (ls' := [some (.ref 0), some (.int x1), some (.int x2), some (.int x3), some (.int x4), some (.int v385), some (.int v401)]) (st' := [.int v385, .ref 9, .int v385, .ref 9]) (s' := s400) rfl ?_
          refine wpc_ldaI (a := 8) (N := 64) (v := (gI s400 9 (ix v385))) rfl rfl (by decide) h402.1 rfl ?_
          have h403 := h402.2
          refine wpc_sl (n := 10) (c' := 11) (pc' := 106) (ls' := [some (.ref 0), some (.int x1), some (.int x2), some (.int x3), some (.int x4), some (.int v385), some (.int v401)]) (st' := [.int (((gI s400 9 (ix v385)) &&& x3) ||| ((x3 &&& (x2 ^^^ (-1 : Int32))) &&& v401)), .int v385, .ref 9]) (s' := s400) rfl ?_
          refine wpc_staI (a := 8) (N := 64) (s' := (sI s400 9 (ix v385) (((gI s400 9 (ix v385)) &&& x3) ||| ((x3 &&& (x2 ^^^ (-1 : Int32))) &&& v401)))) rfl rfl (by decide) h403.1 rfl ?_
          have h404 := h403.2
          exact wpc_lle (ls := [some (.ref 0), some (.int x1), some (.int x2), some (.int x3), some (.int x4), none, none]) ⟨rfl, rfl, rfl, rfl, rfl, trivial⟩ h404
  · have h383 := h.2 hc381
    exact wpc_ret rfl rfl (fun q => absurd q (by decide)) rfl ⟨rfl, h383⟩
theorem c13_107 (x1 : Int32) (x2 : Int32) (x3 : Int32) (x4 : Int32) (s : St) (Q : St → Prop) (h : wpcV PP 13 cm13 11 18 [some (.ref 0), some (.int x1), some (.int x2), some (.int x3), some (.int (x4 + (1 : Int32))), none, none] [] s Q) : wpcV PP 13 cm13 11 107 [some (.ref 0), some (.int x1), some (.int x2), some (.int x3), some (.int x4), none, none] [] s Q := by
  refine wpc_sl (n := 2) (c' := 11) (pc' := 18) (ls' := [some (.ref 0), some (.int x1), some (.int x2), some (.int x3), some (.int (x4 + (1 : Int32))), none, none]) (st' := []) (s' := s) rfl ?_
  exact h
theorem c18_in (a1 : Int32) (s : St) (Q : Int32 → St → Prop) (h : calI PP 3 11 [.ref 0, .int a1] s (fun v334 s333 => ((v334 = (0 : Int32)) → Q (-1 : Int32) s333) ∧ (¬ (v334 = (0 : Int32)) → calI PP 3 11 [.ref 0, .int (a1 ^^^ (1 : Int32))] s333 (fun v340 s339 => ((v340 = (0 : Int32)) → wpcI PP 18 cm18 11 36 [some (.ref 0), some (.int a1), some (.int (a1 >>> ((1 : Int32) &&& 31))), some (.int (a1 ^^^ (1 : Int32))), some (.int (0 : Int32))] [] s339 Q) ∧ (¬ (v340 = (0 : Int32)) → calI PP 4 11 [.ref 0, .int (a1 ^^^ (1 : Int32))] s339 (fun v346 s345 => wpcI PP 18 cm18 11 36 [some (.ref 0), some (.int a1), some (.int (a1 >>> ((1 : Int32) &&& 31))), some (.int (a1 ^^^ (1 : Int32))), some (.int v346)] [] s345 Q)))))) : calI PP 18 11 [.ref 0, .int a1] s Q := by
  refine cal_of (me := cm18) (ls := [some (.ref 0), some (.int a1), none, none, none]) rfl (Nat.le_of_ble_eq_true rfl) rfl ?_
  refine wpc_sl (n := 2) (c' := 11) (pc' := 2) (ls' := [some (.ref 0), some (.int a1), none, none, none]) (st' := [.int a1, .ref 0]) (s' := s) rfl ?_
  refine wpc_callI (m' := 3) (me' := cm3) (as := [.int a1]) (r := []) rfl rfl rfl rfl rfl ⟨by decide, (by first | decide | exact Nat.le_of_ble_eq_true rfl), (by first | decide | exact Nat.le_of_ble_eq_true rfl), rfl⟩ (calI.mono h fun v334 s333 h335 => ?_)
  refine wpc_if (a := 10) (b := 8) rfl (by decide) rfl rfl (wpc_br (p := v334 = (0 : Int32)) ⟨fun hc336 => ?_, fun hc336 => ?_⟩)
  · have h337 := h335.1 hc336
    refine wpc_sl (n := 1) (c' := 11) (pc' := 9) (ls' := [some (.ref 0), some (.int a1), none, none, none]) (st' := [.int (-1 : Int32)]) (s' := s333) rfl ?_
    exact wpc_ret rfl rfl (fun q => absurd q (by decide)) rfl ⟨(-1 : Int32), rfl, h337⟩
  · have h338 := h335.2 hc336
    refine wpc_sl (n := 12) (c' := 11) (pc' := 23) (ls' := [some (.ref 0), some (.int a1), some (.int (a1 >>> ((1 : Int32) &&& 31))), some (.int (a1 ^^^ (1 : Int32))), some (.int (0 : Int32))]) (st' := [.int (a1 ^^^ (1 : Int32)), .ref 0]) (s' := s333) rfl ?_
    refine wpc_callI (m' := 3) (me' := cm3) (as := [.int (a1 ^^^ (1 : Int32))]) (r := []) rfl rfl rfl rfl rfl ⟨by decide, (by first | decide | exact Nat.le_of_ble_eq_true rfl), (by first | decide | exact Nat.le_of_ble_eq_true rfl), rfl⟩ (calI.mono h338 fun v340 s339 h341 => ?_)
    refine wpc_if (a := 36) (b := 29) rfl (by decide) rfl rfl (wpc_br (p := v340 = (0 : Int32)) ⟨fun hc342 => ?_, fun hc342 => ?_⟩)
    · have h343 := h341.1 hc342
      exact h343
    · have h344 := h341.2 hc342
      refine wpc_sl (n := 2) (c' := 11) (pc' := 31) (ls' := [some (.ref 0), some (.int a1), some (.int (a1 >>> ((1 : Int32) &&& 31))), some (.int (a1 ^^^ (1 : Int32))), some (.int (0 : Int32))]) (st' := [.int (a1 ^^^ (1 : Int32)), .ref 0]) (s' := s339) rfl ?_
      refine wpc_callI (m' := 4) (me' := cm4) (as := [.int (a1 ^^^ (1 : Int32))]) (r := []) rfl rfl rfl rfl rfl ⟨by decide, (by first | decide | exact Nat.le_of_ble_eq_true rfl), (by first | decide | exact Nat.le_of_ble_eq_true rfl), rfl⟩ (calI.mono h344 fun v346 s345 h347 => ?_)
      refine wpc_sl (n := 1) (c' := 11) (pc' := 36) (ls' := [some (.ref 0), some (.int a1), some (.int (a1 >>> ((1 : Int32) &&& 31))), some (.int (a1 ^^^ (1 : Int32))), some (.int v346)]) (st' := []) (s' := s345) rfl ?_
      exact h347
theorem c18_36 (x1 : Int32) (x2 : Int32) (x3 : Int32) (x4 : Int32) (s : St) (Q : Int32 → St → Prop) (h : (((x1 &&& (1 : Int32)) = (0 : Int32)) → inb 8 x2 ∧ wpcI PP 18 cm18 11 59 [some (.ref 0), some (.int x1), none, some (.int x3), some (.int x4)] [] (sI s 1 (ix x2) (0 : Int32)) Q) ∧ (¬ ((x1 &&& (1 : Int32)) = (0 : Int32)) → inb 8 x2 ∧ wpcI PP 18 cm18 11 59 [some (.ref 0), some (.int x1), none, some (.int x3), some (.int x4)] [] (sI s 2 (ix x2) (0 : Int32)) Q)) : wpcI PP 18 cm18 11 36 [some (.ref 0), some (.int x1), some (.int x2), some (.int x3), some (.int x4)] [] s Q := by
  refine wpc_sl (n := 3) (c' := 11) (pc' := 39) (ls' := [some (.ref 0), some (.int x1), some (.int x2), some (.int x3), some (.int x4)]) (st' := [.int (x1 &&& (1 : Int32))]) (s' := s) rfl ?_
  refine wpc_if (a := 52) (b := 42) rfl (by decide) rfl rfl (wpc_br (p := (x1 &&& (1 : Int32)) = (0 : Int32)) ⟨fun hc348 => ?_, fun hc348 => ?_⟩)
  · have h349 := h.1 hc348
    refine wpc_sl (n := 4) (c' := 11) (pc' := 48) (ls' := [some (.ref 0), some (.int x1), some (.int x2), some (.int x3), some (.int x4)]) (st' := [.int (0 : Int32), .int x2, .ref 1]) (s' := s) rfl ?_
    refine wpc_staZ (a := 0) (N := 8) (s' := (sI s 1 (ix x2) (0 : Int32))) rfl rfl (by decide) h349.1 rfl ?_
    have h351 := h349.2
    refine wpc_sl (n := 1) (c' := 11) (pc' := 59) (ls' := [some (.ref 0), some (.int x1), some (.int x2), some (.int x3), some (.int x4)]) (st' := []) (s' := (sI s 1 (ix x2) (0 : Int32))) rfl ?_
    exact wpc_lle (ls := [some (.ref 0), some (.int x1), none, some (.int x3), some (.int x4)]) ⟨rfl, rfl, rfl, rfl, trivial⟩ h351
  · have h350 := h.2 hc348
    refine wpc_sl (n := 4) (c' := 11) (pc' := 58) (ls' := [some (.ref 0), some (.int x1), some (.int x2), some (.int x3), some (.int x4)]) (st' := [.int (0 : Int32), .int x2, .ref 2]) (s' := s) rfl ?_
    refine wpc_staZ (a := 1) (N := 8) (s' := (sI s 2 (ix x2) (0 : Int32))) rfl rfl (by decide) h350.1 rfl ?_
    have h352 := h350.2
    exact wpc_lle (ls := [some (.ref 0), some (.int x1), none, some (.int x3), some (.int x4)]) ⟨rfl, rfl, rfl, rfl, trivial⟩ h352
theorem c18_59 (x1 : Int32) (x3 : Int32) (x4 : Int32) (s : St) (Q : Int32 → St → Prop) (h : calV PP 12 11 [.ref 0, .int x1] s (fun s353 => calV PP 13 11 [.ref 0, .int x3, .int x4] s353 (fun s356 => Q (0 : Int32) s356))) : wpcI PP 18 cm18 11 59 [some (.ref 0), some (.int x1), none, some (.int x3), some (.int x4)] [] s Q := by
  refine wpc_sl (n := 2) (c' := 11) (pc' := 61) (ls' := [some (.ref 0), some (.int x1), none, some (.int x3), some (.int x4)]) (st' := [.int x1, .ref 0]) (s' := s) rfl ?_
  refine wpc_callV (m' := 12) (me' := cm12) (as := [.int x1]) (r := []) rfl rfl rfl rfl rfl ⟨by decide, (by first | decide | exact Nat.le_of_ble_eq_true rfl), (by first | decide | exact Nat.le_of_ble_eq_true rfl), rfl⟩ (calV.mono h fun s353 h355 => ?_)
  refine wpc_sl (n := 3) (c' := 11) (pc' := 68) (ls' := [some (.ref 0), some (.int x1), none, some (.int x3), some (.int x4)]) (st' := [.int x4, .int x3, .ref 0]) (s' := s353) rfl ?_
  refine wpc_callV (m' := 13) (me' := cm13) (as := [.int x3, .int x4]) (r := []) rfl rfl rfl rfl rfl ⟨by decide, (by first | decide | exact Nat.le_of_ble_eq_true rfl), (by first | decide | exact Nat.le_of_ble_eq_true rfl), rfl⟩ (calV.mono h355 fun s356 h358 => ?_)
  refine wpc_sl (n := 1) (c' := 11) (pc' := 72) (ls' := [some (.ref 0), some (.int x1), none, some (.int x3), some (.int x4)]) (st' := [.int (0 : Int32)]) (s' := s356) rfl ?_
  exact wpc_ret rfl rfl (fun q => absurd q (by decide)) rfl ⟨(0 : Int32), rfl, h358⟩
theorem c6_in (a1 : Int32) (s : St) (Q : Int32 → St → Prop) (h : ((a1 < (0 : Int32)) → Q (0 : Int32) s) ∧ (¬ (a1 < (0 : Int32)) → ((a1 < (gI s 0 19)) → Q (1 : Int32) s) ∧ (¬ (a1 < (gI s 0 19)) → Q (0 : Int32) s))) : calI PP 6 11 [.ref 0, .int a1] s Q := by
  refine cal_of (me := cm6) (ls := [some (.ref 0), some (.int a1)]) rfl (Nat.le_of_ble_eq_true rfl) rfl ?_
  refine wpc_sl (n := 1) (c' := 11) (pc' := 1) (ls' := [some (.ref 0), some (.int a1)]) (st' := [.int a1]) (s' := s) rfl ?_
  refine wpc_if (a := 16) (b := 4) rfl (by decide) rfl rfl (wpc_br (p := a1 < (0 : Int32)) ⟨fun hc427 => ?_, fun hc427 => ?_⟩)
  · have h428 := h.1 hc427
    refine wpc_sl (n := 1) (c' := 11) (pc' := 17) (ls' := [some (.ref 0), some (.int a1)]) (st' := [.int (0 : Int32)]) (s' := s) rfl ?_
    exact wpc_ret rfl rfl (fun q => absurd q (by decide)) rfl ⟨(0 : Int32), rfl, h428⟩
  · have h429 := h.2 hc427
    refine wpc_sl (n := 3) (c' := 11) (pc' := 9) (ls' := [some (.ref 0), some (.int a1)]) (st' := [.int (gI s 0 19), .int a1]) (s' := s) rfl ?_
    refine wpc_icmp (a := 16) (b := 12) rfl (by decide) rfl rfl (wpc_br (p := a1 < (gI s 0 19)) ⟨fun hc430 => ?_, fun hc430 => ?_⟩)
    · have h431 := h429.1 hc430
      refine wpc_sl (n := 2) (c' := 11) (pc' := 17) (ls' := [some (.ref 0), some (.int a1)]) (st' := [.int (1 : Int32)]) (s' := s) rfl ?_
      exact wpc_ret rfl rfl (fun q => absurd q (by decide)) rfl ⟨(1 : Int32), rfl, h431⟩
    · have h432 := h429.2 hc430
      refine wpc_sl (n := 1) (c' := 11) (pc' := 17) (ls' := [some (.ref 0), some (.int a1)]) (st' := [.int (0 : Int32)]) (s' := s) rfl ?_
      exact wpc_ret rfl rfl (fun q => absurd q (by decide)) rfl ⟨(0 : Int32), rfl, h432⟩
theorem c21_in (a1 : Int32) (a2 : Int32) (s : St) (Q : Int32 → St → Prop) (h : calI PP 6 11 [.ref 0, .int a1] s (fun v406 s405 => ((v406 = (0 : Int32)) → Q (-6 : Int32) s405) ∧ (¬ (v406 = (0 : Int32)) → calI PP 3 11 [.ref 0, .int a2] s405 (fun v412 s411 => ((v412 = (0 : Int32)) → Q (-1 : Int32) s411) ∧ (¬ (v412 = (0 : Int32)) → calI PP 8 11 [.ref 0, .int a1, .int a2] s411 (fun v418 s417 => inb 64 v418 ∧ (((gI s417 6 (ix v418)) = (0 : Int32)) → Q (-7 : Int32) s417) ∧ (¬ ((gI s417 6 (ix v418)) = (0 : Int32)) → calV PP 11 11 [.ref 0, .int v418] s417 (fun s424 => Q (0 : Int32) s424)))))))) : calI PP 21 11 [.ref 0, .int a1, .int a2] s Q := by
  refine cal_of (me := cm21) (ls := [some (.ref 0), some (.int a1), some (.int a2), none]) rfl (Nat.le_of_ble_eq_true rfl) rfl ?_
  refine wpc_sl (n := 2) (c' := 11) (pc' := 2) (ls' := [some (.ref 0), some (.int a1), some (.int a2), none]) (st' := [.int a1, .ref 0]) (s' := s) rfl ?_
  refine wpc_callI (m' := 6) (me' := cm6) (as := [.int a1]) (r := []) rfl rfl rfl rfl rfl ⟨by decide, (by first | decide | exact Nat.le_of_ble_eq_true rfl), (by first | decide | exact Nat.le_of_ble_eq_true rfl), rfl⟩ (calI.mono h fun v406 s405 h407 => ?_)
  refine wpc_if (a := 11) (b := 8) rfl (by decide) rfl rfl (wpc_br (p := v406 = (0 : Int32)) ⟨fun hc408 => ?_, fun hc408 => ?_⟩)
  · have h409 := h407.1 hc408
    refine wpc_sl (n := 1) (c' := 11) (pc' := 10) (ls' := [some (.ref 0), some (.int a1), some (.int a2), none]) (st' := [.int (-6 : Int32)]) (s' := s405) rfl ?_
    exact wpc_ret rfl rfl (fun q => absurd q (by decide)) rfl ⟨(-6 : Int32), rfl, h409⟩
  · have h410 := h407.2 hc408
    refine wpc_sl (n := 2) (c' := 11) (pc' := 13) (ls' := [some (.ref 0), some (.int a1), some (.int a2), none]) (st' := [.int a2, .ref 0]) (s' := s405) rfl ?_
    refine wpc_callI (m' := 3) (me' := cm3) (as := [.int a2]) (r := []) rfl rfl rfl rfl rfl ⟨by decide, (by first | decide | exact Nat.le_of_ble_eq_true rfl), (by first | decide | exact Nat.le_of_ble_eq_true rfl), rfl⟩ (calI.mono h410 fun v412 s411 h413 => ?_)
    refine wpc_if (a := 21) (b := 19) rfl (by decide) rfl rfl (wpc_br (p := v412 = (0 : Int32)) ⟨fun hc414 => ?_, fun hc414 => ?_⟩)
    · have h415 := h413.1 hc414
      refine wpc_sl (n := 1) (c' := 11) (pc' := 20) (ls' := [some (.ref 0), some (.int a1), some (.int a2), none]) (st' := [.int (-1 : Int32)]) (s' := s411) rfl ?_
      exact wpc_ret rfl rfl (fun q => absurd q (by decide)) rfl ⟨(-1 : Int32), rfl, h415⟩
    · have h416 := h413.2 hc414
      refine wpc_sl (n := 3) (c' := 11) (pc' := 24) (ls' := [some (.ref 0), some (.int a1), some (.int a2), none]) (st' := [.int a2, .int a1, .ref 0]) (s' := s411) rfl ?_
      refine wpc_callI (m' := 8) (me' := cm8) (as := [.int a1, .int a2]) (r := []) rfl rfl rfl rfl rfl ⟨by decide, (by first | decide | exact Nat.le_of_ble_eq_true rfl), (by first | decide | exact Nat.le_of_ble_eq_true rfl), rfl⟩ (calI.mono h416 fun v418 s417 h419 => ?_)
      refine wpc_sl (n := 4) (c' := 11) (pc' := 33) (ls' := [some (.ref 0), some (.int a1), some (.int a2), some (.int v418)]) (st' := [.int v418, .ref 6]) (s' := s417) rfl ?_
      refine wpc_ldaZ (a := 5) (N := 64) (v := (gI s417 6 (ix v418))) rfl rfl (by decide) h419.1 rfl ?_
      have h420 := h419.2
      refine wpc_if (a := 40) (b := 37) rfl (by decide) rfl rfl (wpc_br (p := (gI s417 6 (ix v418)) = (0 : Int32)) ⟨fun hc421 => ?_, fun hc421 => ?_⟩)
      · have h422 := h420.1 hc421
        refine wpc_sl (n := 1) (c' := 11) (pc' := 39) (ls' := [some (.ref 0), some (.int a1), some (.int a2), some (.int v418)]) (st' := [.int (-7 : Int32)]) (s' := s417) rfl ?_
        exact wpc_ret rfl rfl (fun q => absurd q (by decide)) rfl ⟨(-7 : Int32), rfl, h422⟩
      · have h423 := h420.2 hc421
        refine wpc_sl (n := 2) (c' := 11) (pc' := 42) (ls' := [some (.ref 0), some (.int a1), some (.int a2), some (.int v418)]) (st' := [.int v418, .ref 0]) (s' := s417) rfl ?_
        refine wpc_callV (m' := 11) (me' := cm11) (as := [.int v418]) (r := []) rfl rfl rfl rfl rfl ⟨by decide, (by first | decide | exact Nat.le_of_ble_eq_true rfl), (by first | decide | exact Nat.le_of_ble_eq_true rfl), rfl⟩ (calV.mono h423 fun s424 h426 => ?_)
        refine wpc_sl (n := 1) (c' := 11) (pc' := 46) (ls' := [some (.ref 0), some (.int a1), some (.int a2), some (.int v418)]) (st' := [.int (0 : Int32)]) (s' := s424) rfl ?_
        exact wpc_ret rfl rfl (fun q => absurd q (by decide)) rfl ⟨(0 : Int32), rfl, h426⟩
theorem c17_in (a1 : Int32) (s : St) (Q : Int32 → St → Prop) (h : calI PP 3 11 [.ref 0, .int a1] s (fun v434 s433 => ((v434 = (0 : Int32)) → Q (-1 : Int32) s433) ∧ (¬ (v434 = (0 : Int32)) → (((a1 &&& (1 : Int32)) = (0 : Int32)) → inb 8 (a1 >>> ((1 : Int32) &&& 31)) ∧ (((gI s433 5 (ix (a1 >>> ((1 : Int32) &&& 31)))) = (0 : Int32)) → inb 8 (a1 >>> ((1 : Int32) &&& 31)) ∧ (((gI s433 2 (ix (a1 >>> ((1 : Int32) &&& 31)))) = (0 : Int32)) → Q (-3 : Int32) s433) ∧ (¬ ((gI s433 2 (ix (a1 >>> ((1 : Int32) &&& 31)))) = (0 : Int32)) → Q (-2 : Int32) s433)) ∧ (¬ ((gI s433 5 (ix (a1 >>> ((1 : Int32) &&& 31)))) = (0 : Int32)) → calI PP 4 11 [.ref 0, .int ((2 : Int32) * (a1 >>> ((1 : Int32) &&& 31)))] s433 (fun v451 s450 => calI PP 4 11 [.ref 0, .int (((2 : Int32) * (a1 >>> ((1 : Int32) &&& 31))) + (1 : Int32))] s450 (fun v454 s453 => inb 8 (a1 >>> ((1 : Int32) &&& 31)) ∧ inb 128 (((a1 >>> ((1 : Int32) &&& 31)) * (16 : Int32)) + ((gI s453 4 (ix (a1 >>> ((1 : Int32) &&& 31)))) &&& (15 : Int32))) ∧ inb 8 (a1 >>> ((1 : Int32) &&& 31)) ∧ inb 8 (a1 >>> ((1 : Int32) &&& 31)) ∧ inb 8 (a1 >>> ((1 : Int32) &&& 31)) ∧ inb 8 (a1 >>> ((1 : Int32) &&& 31)) ∧ calV PP 13 11 [.ref 0, .int ((2 : Int32) * (a1 >>> ((1 : Int32) &&& 31))), .int v451] (sI (sI s453 4 (ix (a1 >>> ((1 : Int32) &&& 31))) (((gI s453 4 (ix (a1 >>> ((1 : Int32) &&& 31)))) + (1 : Int32)) &&& (15 : Int32))) 5 (ix (a1 >>> ((1 : Int32) &&& 31))) ((gI s453 5 (ix (a1 >>> ((1 : Int32) &&& 31)))) - (1 : Int32))) (fun s462 => calV PP 13 11 [.ref 0, .int (((2 : Int32) * (a1 >>> ((1 : Int32) &&& 31))) + (1 : Int32)), .int v454] s462 (fun s465 => Q (gI s453 3 (ix (((a1 >>> ((1 : Int32) &&& 31)) * (16 : Int32)) + ((gI s453 4 (ix (a1 >>> ((1 : Int32) &&& 31)))) &&& (15 : Int32))))) s465)))))) ∧ (¬ ((a1 &&& (1 : Int32)) = (0 : Int32)) → Q (-1 : Int32) s433)))) : calI PP 17 11 [.ref 0, .int a1] s Q := by
  refine cal_of (me := cm17) (ls := [some (.ref 0), some (.int a1), none, none, none, none]) rfl (Nat.le_of_ble_eq_true rfl) rfl ?_
  refine wpc_sl (n := 2) (c' := 11) (pc' := 2) (ls' := [some (.ref 0), some (.int a1), none, none, none, none]) (st' := [.int a1, .ref 0]) (s' := s) rfl ?_
  refine wpc_callI (m' := 3) (me' := cm3) (as := [.int a1]) (r := []) rfl rfl rfl rfl rfl ⟨by decide, (by first | decide | exact Nat.le_of_ble_eq_true rfl), (by first | decide | exact Nat.le_of_ble_eq_true rfl), rfl⟩ (calI.mono h fun v434 s433 h435 => ?_)
  refine wpc_if (a := 14) (b := 8) rfl (by decide) rfl rfl (wpc_br (p := v434 = (0 : Int32)) ⟨fun hc436 => ?_, fun hc436 => ?_⟩)
  · have h437 := h435.1 hc436
    refine wpc_sl (n := 1) (c' := 11) (pc' := 15) (ls' := [some (.ref 0), some (.int a1), none, none, none, none]) (st' := [.int (-1 : Int32)]) (s' := s433) rfl ?_
    exact wpc_ret rfl rfl (fun q => absurd q (by decide)) rfl ⟨(-1 : Int32), rfl, h437⟩
  · have h438 := h435.2 hc436
    refine wpc_sl (n := 3) (c' := 11) (pc' := 11) (ls' := [some (.ref 0), some (.int a1), none, none, none, none]) (st' := [.int (a1 &&& (1 : Int32))]) (s' := s433) rfl ?_
    refine wpc_if (a := 16) (b := 14) rfl (by decide) rfl rfl (wpc_br (p := (a1 &&& (1 : Int32)) = (0 : Int32)) ⟨fun hc439 => ?_, fun hc439 => ?_⟩)
    · have h440 := h438.1 hc439
      refine wpc_sl (n := 7) (c' := 11) (pc' := 25) (ls' := [some (.ref 0), some (.int a1), some (.int (a1 >>> ((1 : Int32) &&& 31))), none, none, none]) (st' := [.int (a1 >>> ((1 : Int32) &&& 31)), .ref 5]) (s' := s433) rfl ?_
      refine wpc_ldaI (a := 4) (N := 8) (v := (gI s433 5 (ix (a1 >>> ((1 : Int32) &&& 31))))) rfl rfl (by decide) h440.1 rfl ?_
      have h442 := h440.2
      refine wpc_if (a := 44) (b := 29) rfl (by decide) rfl rfl (wpc_br (p := (gI s433 5 (ix (a1 >>> ((1 : Int32) &&& 31)))) = (0 : Int32)) ⟨fun hc443 => ?_, fun hc443 => ?_⟩)
      · have h444 := h442.1 hc443
        refine wpc_sl (n := 3) (c' := 11) (pc' := 34) (ls' := [some (.ref 0), some (.int a1), some (.int (a1 >>> ((1 : Int32) &&& 31))), none, none, none]) (st' := [.int (a1 >>> ((1 : Int32) &&& 31)), .ref 2]) (s' := s433) rfl ?_
        refine wpc_ldaZ (a := 1) (N := 8) (v := (gI s433 2 (ix (a1 >>> ((1 : Int32) &&& 31))))) rfl rfl (by decide) h444.1 rfl ?_
        have h446 := h444.2
        refine wpc_if (a := 41) (b := 38) rfl (by decide) rfl rfl (wpc_br (p := (gI s433 2 (ix (a1 >>> ((1 : Int32) &&& 31)))) = (0 : Int32)) ⟨fun hc447 => ?_, fun hc447 => ?_⟩)
        · have h448 := h446.1 hc447
          refine wpc_sl (n := 1) (c' := 11) (pc' := 43) (ls' := [some (.ref 0), some (.int a1), some (.int (a1 >>> ((1 : Int32) &&& 31))), none, none, none]) (st' := [.int (-3 : Int32)]) (s' := s433) rfl ?_
          exact wpc_ret rfl rfl (fun q => absurd q (by decide)) rfl ⟨(-3 : Int32), rfl, h448⟩
        · have h449 := h446.2 hc447
          refine wpc_sl (n := 1) (c' := 11) (pc' := 40) (ls' := [some (.ref 0), some (.int a1), some (.int (a1 >>> ((1 : Int32) &&& 31))), none, none, none]) (st' := [.int (-2 : Int32)]) (s' := s433) rfl ?_
          exact wpc_ret rfl rfl (fun q => absurd q (by decide)) rfl ⟨(-2 : Int32), rfl, h449⟩
      · have h445 := h442.2 hc443
        refine wpc_sl (n := 4) (c' := 11) (pc' := 48) (ls' := [some (.ref 0), some (.int a1), some (.int (a1 >>> ((1 : Int32) &&& 31))), none, none, none]) (st' := [.int ((2 : Int32) * (a1 >>> ((1 : Int32) &&& 31))), .ref 0]) (s' := s433) rfl ?_
        refine wpc_callI (m' := 4) (me' := cm4) (as := [.int ((2 : Int32) * (a1 >>> ((1 : Int32) &&& 31)))]) (r := []) rfl rfl rfl rfl rfl ⟨by decide, (by first | decide | exact Nat.le_of_ble_eq_true rfl), (by first | decide | exact Nat.le_of_ble_eq_true rfl), rfl⟩ (calI.mono h445 fun v451 s450 h452 => ?_)
        refine wpc_sl (n := 7) (c' := 11) (pc' := 58) (ls' := [some (.ref 0), some (.int a1), some (.int (a1 >>> ((1 : Int32) &&& 31))), some (.int v451), none, none]) (st' := [.int (((2 : Int32) * (a1 >>> ((1 : Int32) &&& 31))) + (1 : Int32)), .ref 0]) (s' := s450) rfl ?_
        refine wpc_callI (m' := 4) (me' := cm4) (as := [.int (((2 : Int32) * (a1 >>> ((1 : Int32) &&& 31))) + (1 : Int32))]) (r := []) rfl rfl rfl rfl rfl ⟨by decide, (by first | decide | exact Nat.le_of_ble_eq_true rfl), (by first | decide | exact Nat.le_of_ble_eq_true rfl), rfl⟩ (calI.mono h452 fun v454 s453 h455 => ?_)
        refine wpc_sl (n := 9) (c' := 11) (pc' := 76) (ls' := [some (.ref 0), some (.int a1), some (.int (a1 >>> ((1 : Int32) &&& 31))), some (.int v451), some (.int v454), none]) (st' := [.int (a1 >>> ((1 : Int32) &&& 31)), .ref 4, .int ((a1 >>> ((1 : Int32) &&& 31)) * (16 : Int32)), .ref 3]) (s' := s453) rfl ?_
        refine wpc_ldaI (a := 3) (N := 8) (v := (gI s453 4 (ix (a1 >>> ((1 : Int32) &&& 31))))) rfl rfl (by decide) h455.1 rfl ?_
        have h456 := h455.2
        refine wpc_sl (n := 3) (c' := 11) (pc' := 81) (ls' := [some (.ref 0), some (.int a1), some (.int (a1 >>> ((1 : Int32) &&& 31))), some (.int v451), some (.int v454), none]) (st' := [.int (((a1 >>> ((1 : Int32) &&& 31)) * (16 : Int32)) + ((gI s453 4 (ix (a1 >>> ((1 : Int32) &&& 31)))) &&& (15 : Int32))), .ref 3]) (s' := s453) rfl ?_
        refine wpc_ldaI (a := 2) (N := 128) (v := (gI s453 3 (ix (((a1 >>> ((1 : Int32) &&& 31)) * (16 : Int32)) + ((gI s453 4 (ix (a1 >>> ((1 : Int32) &&& 31)))) &&& (15 : Int32)))))) rfl rfl (by decide) h456.1 rfl ?_
        have h457 := h456.2
        refine wpc_sl (n := 7) (c' := 11) (pc' := 94) (ls' := [some (.ref 0), some (.int a1), some (.int (a1 >>> ((1 : Int32) &&& 31))), some (.int v451), some (.int v454), some (.int (gI s453 3 (ix (((a1 >>> ((1 : Int32) &&& 31)) * (16 : Int32)) + ((gI s453 4 (ix (a1 >>> ((1 : Int32) &&& 31)))) &&& (15 : Int32))))))]) (st' := [.int (a1 >>> ((1 : Int32) &&& 31)), .ref 4, .int (a1 >>> ((1 : Int32) &&& 31)), .ref 4]) (s' := s453) rfl ?_
        refine wpc_ldaI (a := 3) (N := 8) (v := (gI s453 4 (ix (a1 >>> ((1 : Int32) &&& 31))))) rfl rfl (by decide) h457.1 rfl ?_
        have h458 := h457.2
        refine wpc_sl (n := 4) (c' := 11) (pc' := 100) (ls' := [some (.ref 0), some (.int a1), some (.int (a1 >>> ((1 : Int32) &&& 31))), some (.int v451), some (.int v454), some (.int (gI s453 3 (ix (((a1 >>> ((1 : Int32) &&& 31)) * (16 : Int32)) + ((gI s453 4 (ix (a1 >>> ((1 : Int32) &&& 31)))) &&& (15 : Int32))))))]) (st' := [.int (((gI s453 4 (ix (a1 >>> ((1 : Int32) &&& 31)))) + (1 : Int32)) &&& (15 : Int32)), .int (a1 >>> ((1 : Int32) &&& 31)), .ref 4]) (s' := s453) rfl ?_
        refine wpc_staI (a := 3) (N := 8) (s' := (sI s453 4 (ix (a1 >>> ((1 : Int32) &&& 31))) (((gI s453 4 (ix (a1 >>> ((1 : Int32) &&& 31)))) + (1 : Int32)) &&& (15 : Int32)))) rfl rfl (by decide) h458.1 rfl ?_
        have h459 := h458.2
        refine wpc_sl (n := 6) (c' := 11) (pc' := 111) (ls' := [some (.ref 0), some (.int a1), some (.int (a1 >>> ((1 : Int32) &&& 31))), some (.int v451), some (.int v454), some (.int (gI s453 3 (ix (((a1 >>> ((1 : Int32) &&& 31)) * (16 : Int32)) + ((gI s453 4 (ix (a1 >>> ((1 : Int32) &&& 31)))) &&& (15 : Int32))))))]) (st' := [.int (a1 >>> ((1 : Int32) &&& 31)), .ref 5, .int (a1 >>> ((1 : Int32) &&& 31)), .ref 5]) (s' := (sI s453 4 (ix (a1 >>> ((1 : Int32) &&& 31))) (((gI s453 4 (ix (a1 >>> ((1 : Int32) &&& 31)))) + (1 : Int32)) &&& (15 : Int32)))) rfl ?_
        refine wpc_ldaI (a := 4) (N := 8) (v := (gI s453 5 (ix (a1 >>> ((1 : Int32) &&& 31))))) rfl rfl (by decide) h459.1 rfl ?_
        have h460 := h459.2
        refine wpc_sl (n := 2) (c' := 11) (pc' := 114) (ls' := [some (.ref 0), some (.int a1), some (.int (a1 >>> ((1 : Int32) &&& 31))), some (.int v451), some (.int v454), some (.int (gI s453 3 (ix (((a1 >>> ((1 : Int32) &&& 31)) * (16 : Int32)) + ((gI s453 4 (ix (a1 >>> ((1 : Int32) &&& 31)))) &&& (15 : Int32))))))]) (st' := [.int ((gI s453 5 (ix (a1 >>> ((1 : Int32) &&& 31)))) - (1 : Int32)), .int (a1 >>> ((1 : Int32) &&& 31)), .ref 5]) (s' := (sI s453 4 (ix (a1 >>> ((1 : Int32) &&& 31))) (((gI s453 4 (ix (a1 >>> ((1 : Int32) &&& 31)))) + (1 : Int32)) &&& (15 : Int32)))) rfl ?_
        refine wpc_staI (a := 4) (N := 8) (s' := (sI (sI s453 4 (ix (a1 >>> ((1 : Int32) &&& 31))) (((gI s453 4 (ix (a1 >>> ((1 : Int32) &&& 31)))) + (1 : Int32)) &&& (15 : Int32))) 5 (ix (a1 >>> ((1 : Int32) &&& 31))) ((gI s453 5 (ix (a1 >>> ((1 : Int32) &&& 31)))) - (1 : Int32)))) rfl rfl (by decide) h460.1 rfl ?_
        have h461 := h460.2
        refine wpc_sl (n := 5) (c' := 11) (pc' := 120) (ls' := [some (.ref 0), some (.int a1), some (.int (a1 >>> ((1 : Int32) &&& 31))), some (.int v451), some (.int v454), some (.int (gI s453 3 (ix (((a1 >>> ((1 : Int32) &&& 31)) * (16 : Int32)) + ((gI s453 4 (ix (a1 >>> ((1 : Int32) &&& 31)))) &&& (15 : Int32))))))]) (st' := [.int v451, .int ((2 : Int32) * (a1 >>> ((1 : Int32) &&& 31))), .ref 0]) (s' := (sI (sI s453 4 (ix (a1 >>> ((1 : Int32) &&& 31))) (((gI s453 4 (ix (a1 >>> ((1 : Int32) &&& 31)))) + (1 : Int32)) &&& (15 : Int32))) 5 (ix (a1 >>> ((1 : Int32) &&& 31))) ((gI s453 5 (ix (a1 >>> ((1 : Int32) &&& 31)))) - (1 : Int32)))) rfl ?_
        refine wpc_callV (m' := 13) (me' := cm13) (as := [.int ((2 : Int32) * (a1 >>> ((1 : Int32) &&& 31))), .int v451]) (r := []) rfl rfl rfl rfl rfl ⟨by decide, (by first | decide | exact Nat.le_of_ble_eq_true rfl), (by first | decide | exact Nat.le_of_ble_eq_true rfl), rfl⟩ (calV.mono h461 fun s462 h464 => ?_)
        refine wpc_sl (n := 7) (c' := 11) (pc' := 131) (ls' := [some (.ref 0), some (.int a1), some (.int (a1 >>> ((1 : Int32) &&& 31))), some (.int v451), some (.int v454), some (.int (gI s453 3 (ix (((a1 >>> ((1 : Int32) &&& 31)) * (16 : Int32)) + ((gI s453 4 (ix (a1 >>> ((1 : Int32) &&& 31)))) &&& (15 : Int32))))))]) (st' := [.int v454, .int (((2 : Int32) * (a1 >>> ((1 : Int32) &&& 31))) + (1 : Int32)), .ref 0]) (s' := s462) rfl ?_
        refine wpc_callV (m' := 13) (me' := cm13) (as := [.int (((2 : Int32) * (a1 >>> ((1 : Int32) &&& 31))) + (1 : Int32)), .int v454]) (r := []) rfl rfl rfl rfl rfl ⟨by decide, (by first | decide | exact Nat.le_of_ble_eq_true rfl), (by first | decide | exact Nat.le_of_ble_eq_true rfl), rfl⟩ (calV.mono h464 fun s465 h467 => ?_)
        refine wpc_sl (n := 1) (c' := 11) (pc' := 136) (ls' := [some (.ref 0), some (.int a1), some (.int (a1 >>> ((1 : Int32) &&& 31))), some (.int v451), some (.int v454), some (.int (gI s453 3 (ix (((a1 >>> ((1 : Int32) &&& 31)) * (16 : Int32)) + ((gI s453 4 (ix (a1 >>> ((1 : Int32) &&& 31)))) &&& (15 : Int32))))))]) (st' := [.int (gI s453 3 (ix (((a1 >>> ((1 : Int32) &&& 31)) * (16 : Int32)) + ((gI s453 4 (ix (a1 >>> ((1 : Int32) &&& 31)))) &&& (15 : Int32)))))]) (s' := s465) rfl ?_
        exact wpc_ret rfl rfl (fun q => absurd q (by decide)) rfl ⟨(gI s453 3 (ix (((a1 >>> ((1 : Int32) &&& 31)) * (16 : Int32)) + ((gI s453 4 (ix (a1 >>> ((1 : Int32) &&& 31)))) &&& (15 : Int32))))), rfl, h467⟩
    · have h441 := h438.2 hc439
      refine wpc_sl (n := 1) (c' := 11) (pc' := 15) (ls' := [some (.ref 0), some (.int a1), none, none, none, none]) (st' := [.int (-1 : Int32)]) (s' := s433) rfl ?_
      exact wpc_ret rfl rfl (fun q => absurd q (by decide)) rfl ⟨(-1 : Int32), rfl, h441⟩
theorem c16_in (a1 : Int32) (a2 : Int32) (s : St) (Q : Int32 → St → Prop) (h : calI PP 3 11 [.ref 0, .int a1] s (fun v469 s468 => ((v469 = (0 : Int32)) → Q (-1 : Int32) s468) ∧ (¬ (v469 = (0 : Int32)) → (((a1 &&& (1 : Int32)) = (0 : Int32)) → Q (-1 : Int32) s468) ∧ (¬ ((a1 &&& (1 : Int32)) = (0 : Int32)) → inb 8 (a1 >>> ((1 : Int32) &&& 31)) ∧ (((gI s468 1 (ix (a1 >>> ((1 : Int32) &&& 31)))) = (0 : Int32)) → Q (-4 : Int32) s468) ∧ (¬ ((gI s468 1 (ix (a1 >>> ((1 : Int32) &&& 31)))) = (0 : Int32)) → inb 8 (a1 >>> ((1 : Int32) &&& 31)) ∧ (((gI s468 5 (ix (a1 >>> ((1 : Int32) &&& 31)))) < (gI s468 0 18)) → calI PP 4 11 [.ref 0, .int ((2 : Int32) * (a1 >>> ((1 : Int32) &&& 31)))] s468 (fun v486 s485 => calI PP 4 11 [.ref 0, .int (((2 : Int32) * (a1 >>> ((1 : Int32) &&& 31))) + (1 : Int32))] s485 (fun v489 s488 => inb 8 (a1 >>> ((1 : Int32) &&& 31)) ∧ inb 8 (a1 >>> ((1 : Int32) &&& 31)) ∧ inb 128 (((a1 >>> ((1 : Int32) &&& 31)) * (16 : Int32)) + (((gI s488 4 (ix (a1 >>> ((1 : Int32) &&& 31)))) + (gI s488 5 (ix (a1 >>> ((1 : Int32) &&& 31))))) &&& (15 : Int32))) ∧ inb 8 (a1 >>> ((1 : Int32) &&& 31)) ∧ inb 8 (a1 >>> ((1 : Int32) &&& 31)) ∧ calV PP 13 11 [.ref 0, .int ((2 : Int32) * (a1 >>> ((1 : Int32) &&& 31))), .int v486] (sI (sI s488 3 (ix (((a1 >>> ((1 : Int32) &&& 31)) * (16 : Int32)) + (((gI s488 4 (ix (a1 >>> ((1 : Int32) &&& 31)))) + (gI s488 5 (ix (a1 >>> ((1 : Int32) &&& 31))))) &&& (15 : Int32)))) (a2 &&& (255 : Int32))) 5 (ix (a1 >>> ((1 : Int32) &&& 31))) ((gI s488 5 (ix (a1 >>> ((1 : Int32) &&& 31)))) + (1 : Int32))) (fun s496 => calV PP 13 11 [.ref 0, .int (((2 : Int32) * (a1 >>> ((1 : Int32) &&& 31))) + (1 : Int32)), .int v489] s496 (fun s499 => Q (0 : Int32) s499))))) ∧ (¬ ((gI s468 5 (ix (a1 >>> ((1 : Int32) &&& 31)))) < (gI s468 0 18)) → Q (-2 : Int32) s468)))))) : calI PP 16 11 [.ref 0, .int a1, .int a2] s Q := by
  refine cal_of (me := cm16) (ls := [some (.ref 0), some (.int a1), some (.int a2), none, none, none, none]) rfl (Nat.le_of_ble_eq_true rfl) rfl ?_
  refine wpc_sl (n := 2) (c' := 11) (pc' := 2) (ls' := [some (.ref 0), some (.int a1), some (.int a2), none, none, none, none]) (st' := [.int a1, .ref 0]) (s' := s) rfl ?_
  refine wpc_callI (m' := 3) (me' := cm3) (as := [.int a1]) (r := []) rfl rfl rfl rfl rfl ⟨by decide, (by first | decide | exact Nat.le_of_ble_eq_true rfl), (by first | decide | exact Nat.le_of_ble_eq_true rfl), rfl⟩ (calI.mono h fun v469 s468 h470 => ?_)
  refine wpc_if (a := 14) (b := 8) rfl (by decide) rfl rfl (wpc_br (p := v469 = (0 : Int32)) ⟨fun hc471 => ?_, fun hc471 => ?_⟩)
  · have h472 := h470.1 hc471
    refine wpc_sl (n := 1) (c' := 11) (pc' := 15) (ls' := [some (.ref 0), some (.int a1), some (.int a2), none, none, none, none]) (st' := [.int (-1 : Int32)]) (s' := s468) rfl ?_
    exact wpc_ret rfl rfl (fun q => absurd q (by decide)) rfl ⟨(-1 : Int32), rfl, h472⟩
  · have h473 := h470.2 hc471
    refine wpc_sl (n := 3) (c' := 11) (pc' := 11) (ls' := [some (.ref 0), some (.int a1), some (.int a2), none, none, none, none]) (st' := [.int (a1 &&& (1 : Int32))]) (s' := s468) rfl ?_
    refine wpc_if (a := 16) (b := 14) rfl (by decide) rfl rfl (wpc_br (p := (a1 &&& (1 : Int32)) = (0 : Int32)) ⟨fun hc474 => ?_, fun hc474 => ?_⟩)
    · have h475 := h473.1 hc474
      refine wpc_sl (n := 1) (c' := 11) (pc' := 15) (ls' := [some (.ref 0), some (.int a1), some (.int a2), none, none, none, none]) (st' := [.int (-1 : Int32)]) (s' := s468) rfl ?_
      exact wpc_ret rfl rfl (fun q => absurd q (by decide)) rfl ⟨(-1 : Int32), rfl, h475⟩
    · have h476 := h473.2 hc474
      refine wpc_sl (n := 7) (c' := 11) (pc' := 25) (ls' := [some (.ref 0), some (.int a1), some (.int a2), some (.int (a1 >>> ((1 : Int32) &&& 31))), none, none, none]) (st' := [.int (a1 >>> ((1 : Int32) &&& 31)), .ref 1]) (s' := s468) rfl ?_
      refine wpc_ldaZ (a := 0) (N := 8) (v := (gI s468 1 (ix (a1 >>> ((1 : Int32) &&& 31))))) rfl rfl (by decide) h476.1 rfl ?_
      have h477 := h476.2
      refine wpc_if (a := 32) (b := 29) rfl (by decide) rfl rfl (wpc_br (p := (gI s468 1 (ix (a1 >>> ((1 : Int32) &&& 31)))) = (0 : Int32)) ⟨fun hc478 => ?_, fun hc478 => ?_⟩)
      · have h479 := h477.1 hc478
        refine wpc_sl (n := 1) (c' := 11) (pc' := 31) (ls' := [some (.ref 0), some (.int a1), some (.int a2), some (.int (a1 >>> ((1 : Int32) &&& 31))), none, none, none]) (st' := [.int (-4 : Int32)]) (s' := s468) rfl ?_
        exact wpc_ret rfl rfl (fun q => absurd q (by decide)) rfl ⟨(-4 : Int32), rfl, h479⟩
      · have h480 := h477.2 hc478
        refine wpc_sl (n := 3) (c' := 11) (pc' := 37) (ls' := [some (.ref 0), some (.int a1), some (.int a2), some (.int (a1 >>> ((1 : Int32) &&& 31))), none, none, none]) (st' := [.int (a1 >>> ((1 : Int32) &&& 31)), .ref 5]) (s' := s468) rfl ?_
        refine wpc_ldaI (a := 4) (N := 8) (v := (gI s468 5 (ix (a1 >>> ((1 : Int32) &&& 31))))) rfl rfl (by decide) h480.1 rfl ?_
        have h481 := h480.2
        refine wpc_sl (n := 2) (c' := 11) (pc' := 42) (ls' := [some (.ref 0), some (.int a1), some (.int a2), some (.int (a1 >>> ((1 : Int32) &&& 31))), none, none, none]) (st' := [.int (gI s468 0 18), .int (gI s468 5 (ix (a1 >>> ((1 : Int32) &&& 31))))]) (s' := s468) rfl ?_
        refine wpc_icmp (a := 48) (b := 45) rfl (by decide) rfl rfl (wpc_br (p := (gI s468 5 (ix (a1 >>> ((1 : Int32) &&& 31)))) < (gI s468 0 18)) ⟨fun hc482 => ?_, fun hc482 => ?_⟩)
        · have h483 := h481.1 hc482
          refine wpc_sl (n := 4) (c' := 11) (pc' := 52) (ls' := [some (.ref 0), some (.int a1), some (.int a2), some (.int (a1 >>> ((1 : Int32) &&& 31))), none, none, none]) (st' := [.int ((2 : Int32) * (a1 >>> ((1 : Int32) &&& 31))), .ref 0]) (s' := s468) rfl ?_
          refine wpc_callI (m' := 4) (me' := cm4) (as := [.int ((2 : Int32) * (a1 >>> ((1 : Int32) &&& 31)))]) (r := []) rfl rfl rfl rfl rfl ⟨by decide, (by first | decide | exact Nat.le_of_ble_eq_true rfl), (by first | decide | exact Nat.le_of_ble_eq_true rfl), rfl⟩ (calI.mono h483 fun v486 s485 h487 => ?_)
          refine wpc_sl (n := 7) (c' := 11) (pc' := 63) (ls' := [some (.ref 0), some (.int a1), some (.int a2), some (.int (a1 >>> ((1 : Int32) &&& 31))), some (.int v486), none, none]) (st' := [.int (((2 : Int32) * (a1 >>> ((1 : Int32) &&& 31))) + (1 : Int32)), .ref 0]) (s' := s485) rfl ?_
          refine wpc_callI (m' := 4) (me' := cm4) (as := [.int (((2 : Int32) * (a1 >>> ((1 : Int32) &&& 31))) + (1 : Int32))]) (r := []) rfl rfl rfl rfl rfl ⟨by decide, (by first | decide | exact Nat.le_of_ble_eq_true rfl), (by first | decide | exact Nat.le_of_ble_eq_true rfl), rfl⟩ (calI.mono h487 fun v489 s488 h490 => ?_)
          refine wpc_sl (n := 4) (c' := 11) (pc' := 73) (ls' := [some (.ref 0), some (.int a1), some (.int a2), some (.int (a1 >>> ((1 : Int32) &&& 31))), some (.int v486), some (.int v489), none]) (st' := [.int (a1 >>> ((1 : Int32) &&& 31)), .ref 4]) (s' := s488) rfl ?_
          refine wpc_ldaI (a := 3) (N := 8) (v := (gI s488 4 (ix (a1 >>> ((1 : Int32) &&& 31))))) rfl rfl (by decide) h490.1 rfl ?_
          have h491 := h490.2
          refine wpc_sl (n := 3) (c' := 11) (pc' := 79) (ls' := [some (.ref 0), some (.int a1), some (.int a2), some (.int (a1 >>> ((1 : Int32) &&& 31))), some (.int v486), some (.int v489), none]) (st' := [.int (a1 >>> ((1 : Int32) &&& 31)), .ref 5, .int (gI s488 4 (ix (a1 >>> ((1 : Int32) &&& 31))))]) (s' := s488) rfl ?_
          refine wpc_ldaI (a := 4) (N := 8) (v := (gI s488 5 (ix (a1 >>> ((1 : Int32) &&& 31))))) rfl rfl (by decide) h491.1 rfl ?_
          have h492 := h491.2
          refine wpc_sl (n := 14) (c' := 11) (pc' := 102) (ls' := [some (.ref 0), some (.int a1), some (.int a2), some (.int (a1 >>> ((1 : Int32) &&& 31))), some (.int v486), some (.int v489), some (.int (((gI s488 4 (ix (a1 >>> ((1 : Int32) &&& 31)))) + (gI s488 5 (ix (a1 >>> ((1 : Int32) &&& 31))))) &&& (15 : Int32)))]) (st' := [.int (a2 &&& (255 : Int32)), .int (((a1 >>> ((1 : Int32) &&& 31)) * (16 : Int32)) + (((gI s488 4 (ix (a1 >>> ((1 : Int32) &&& 31)))) + (gI s488 5 (ix (a1 >>> ((1 : Int32) &&& 31))))) &&& (15 : Int32))), .ref 3]) (s' := s488) rfl ?_
          refine wpc_staI (a := 2) (N := 128) (s' := (sI s488 3 (ix (((a1 >>> ((1 : Int32) &&& 31)) * (16 : Int32)) + (((gI s488 4 (ix (a1 >>> ((1 : Int32) &&& 31)))) + (gI s488 5 (ix (a1 >>> ((1 : Int32) &&& 31))))) &&& (15 : Int32)))) (a2 &&& (255 : Int32)))) rfl rfl (by decide) h492.1 rfl ?_
          have h493 := h492.2
          refine wpc_sl (n := 6) (c' := 11) (pc' := 113) (ls' := [some (.ref 0), some (.int a1), some (.int a2), some (.int (a1 >>> ((1 : Int32) &&& 31))), some (.int v486), some (.int v489), some (.int (((gI s488 4 (ix (a1 >>> ((1 : Int32) &&& 31)))) + (gI s488 5 (ix (a1 >>> ((1 : Int32) &&& 31))))) &&& (15 : Int32)))]) (st' := [.int (a1 >>> ((1 : Int32) &&& 31)), .ref 5, .int (a1 >>> ((1 : Int32) &&& 31)), .ref 5]) (s' := (sI s488 3 (ix (((a1 >>> ((1 : Int32) &&& 31)) * (16 : Int32)) + (((gI s488 4 (ix (a1 >>> ((1 : Int32) &&& 31)))) + (gI s488 5 (ix (a1 >>> ((1 : Int32) &&& 31))))) &&& (15 : Int32)))) (a2 &&& (255 : Int32)))) rfl ?_
          refine wpc_ldaI (a := 4) (N := 8) (v := (gI s488 5 (ix (a1 >>> ((1 : Int32) &&& 31))))) rfl rfl (by decide) h493.1 rfl ?_
          have h494 := h493.2
          refine wpc_sl (n := 2) (c' := 11) (pc' := 116) (ls' := [some (.ref 0), some (.int a1), some (.int a2), some (.int (a1 >>> ((1 : Int32) &&& 31))), some (.int v486), some (.int v489), some (.int (((gI s488 4 (ix (a1 >>> ((1 : Int32) &&& 31)))) + (gI s488 5 (ix (a1 >>> ((1 : Int32) &&& 31))))) &&& (15 : Int32)))]) (st' := [.int ((gI s488 5 (ix (a1 >>> ((1 : Int32) &&& 31)))) + (1 : Int32)), .int (a1 >>> ((1 : Int32) &&& 31)), .ref 5]) (s' := (sI s488 3 (ix (((a1 >>> ((1 : Int32) &&& 31)) * (16 : Int32)) + (((gI s488 4 (ix (a1 >>> ((1 : Int32) &&& 31)))) + (gI s488 5 (ix (a1 >>> ((1 : Int32) &&& 31))))) &&& (15 : Int32)))) (a2 &&& (255 : Int32)))) rfl ?_
          refine wpc_staI (a := 4) (N := 8) (s' := (sI (sI s488 3 (ix (((a1 >>> ((1 : Int32) &&& 31)) * (16 : Int32)) + (((gI s488 4 (ix (a1 >>> ((1 : Int32) &&& 31)))) + (gI s488 5 (ix (a1 >>> ((1 : Int32) &&& 31))))) &&& (15 : Int32)))) (a2 &&& (255 : Int32))) 5 (ix (a1 >>> ((1 : Int32) &&& 31))) ((gI s488 5 (ix (a1 >>> ((1 : Int32) &&& 31)))) + (1 : Int32)))) rfl rfl (by decide) h494.1 rfl ?_
          have h495 := h494.2
          refine wpc_sl (n := 5) (c' := 11) (pc' := 123) (ls' := [some (.ref 0), some (.int a1), some (.int a2), some (.int (a1 >>> ((1 : Int32) &&& 31))), some (.int v486), some (.int v489), some (.int (((gI s488 4 (ix (a1 >>> ((1 : Int32) &&& 31)))) + (gI s488 5 (ix (a1 >>> ((1 : Int32) &&& 31))))) &&& (15 : Int32)))]) (st' := [.int v486, .int ((2 : Int32) * (a1 >>> ((1 : Int32) &&& 31))), .ref 0]) (s' := (sI (sI s488 3 (ix (((a1 >>> ((1 : Int32) &&& 31)) * (16 : Int32)) + (((gI s488 4 (ix (a1 >>> ((1 : Int32) &&& 31)))) + (gI s488 5 (ix (a1 >>> ((1 : Int32) &&& 31))))) &&& (15 : Int32)))) (a2 &&& (255 : Int32))) 5 (ix (a1 >>> ((1 : Int32) &&& 31))) ((gI s488 5 (ix (a1 >>> ((1 : Int32) &&& 31)))) + (1 : Int32)))) rfl ?_
          refine wpc_callV (m' := 13) (me' := cm13) (as := [.int ((2 : Int32) * (a1 >>> ((1 : Int32) &&& 31))), .int v486]) (r := []) rfl rfl rfl rfl rfl ⟨by decide, (by first | decide | exact Nat.le_of_ble_eq_true rfl), (by first | decide | exact Nat.le_of_ble_eq_true rfl), rfl⟩ (calV.mono h495 fun s496 h498 => ?_)
          refine wpc_sl (n := 7) (c' := 11) (pc' := 134) (ls' := [some (.ref 0), some (.int a1), some (.int a2), some (.int (a1 >>> ((1 : Int32) &&& 31))), some (.int v486), some (.int v489), some (.int (((gI s488 4 (ix (a1 >>> ((1 : Int32) &&& 31)))) + (gI s488 5 (ix (a1 >>> ((1 : Int32) &&& 31))))) &&& (15 : Int32)))]) (st' := [.int v489, .int (((2 : Int32) * (a1 >>> ((1 : Int32) &&& 31))) + (1 : Int32)), .ref 0]) (s' := s496) rfl ?_
          refine wpc_callV (m' := 13) (me' := cm13) (as := [.int (((2 : Int32) * (a1 >>> ((1 : Int32) &&& 31))) + (1 : Int32)), .int v489]) (r := []) rfl rfl rfl rfl rfl ⟨by decide, (by first | decide | exact Nat.le_of_ble_eq_true rfl), (by first | decide | exact Nat.le_of_ble_eq_true rfl), rfl⟩ (calV.mono h498 fun s499 h501 => ?_)
          refine wpc_sl (n := 1) (c' := 11) (pc' := 138) (ls' := [some (.ref 0), some (.int a1), some (.int a2), some (.int (a1 >>> ((1 : Int32) &&& 31))), some (.int v486), some (.int v489), some (.int (((gI s488 4 (ix (a1 >>> ((1 : Int32) &&& 31)))) + (gI s488 5 (ix (a1 >>> ((1 : Int32) &&& 31))))) &&& (15 : Int32)))]) (st' := [.int (0 : Int32)]) (s' := s499) rfl ?_
          exact wpc_ret rfl rfl (fun q => absurd q (by decide)) rfl ⟨(0 : Int32), rfl, h501⟩
        · have h484 := h481.2 hc482
          refine wpc_sl (n := 1) (c' := 11) (pc' := 47) (ls' := [some (.ref 0), some (.int a1), some (.int a2), some (.int (a1 >>> ((1 : Int32) &&& 31))), none, none, none]) (st' := [.int (-2 : Int32)]) (s' := s468) rfl ?_
          exact wpc_ret rfl rfl (fun q => absurd q (by decide)) rfl ⟨(-2 : Int32), rfl, h484⟩
theorem c7_in (a1 : Int32) (s : St) (Q : Int32 → St → Prop) (h : (((a1 &&& (-52 : Int32)) = (0 : Int32)) → Q (1 : Int32) s) ∧ (¬ ((a1 &&& (-52 : Int32)) = (0 : Int32)) → Q (0 : Int32) s)) : calI PP 7 11 [.ref 0, .int a1] s Q := by
  refine cal_of (me := cm7) (ls := [some (.ref 0), some (.int a1)]) rfl (Nat.le_of_ble_eq_true rfl) rfl ?_
  refine wpc_sl (n := 3) (c' := 11) (pc' := 4) (ls' := [some (.ref 0), some (.int a1)]) (st' := [.int (a1 &&& (-52 : Int32))]) (s' := s) rfl ?_
  refine wpc_if (a := 11) (b := 7) rfl (by decide) rfl rfl (wpc_br (p := (a1 &&& (-52 : Int32)) = (0 : Int32)) ⟨fun hc531 => ?_, fun hc531 => ?_⟩)
  · have h532 := h.1 hc531
    refine wpc_sl (n := 2) (c' := 11) (pc' := 12) (ls' := [some (.ref 0), some (.int a1)]) (st' := [.int (1 : Int32)]) (s' := s) rfl ?_
    exact wpc_ret rfl rfl (fun q => absurd q (by decide)) rfl ⟨(1 : Int32), rfl, h532⟩
  · have h533 := h.2 hc531
    refine wpc_sl (n := 1) (c' := 11) (pc' := 12) (ls' := [some (.ref 0), some (.int a1)]) (st' := [.int (0 : Int32)]) (s' := s) rfl ?_
    exact wpc_ret rfl rfl (fun q => absurd q (by decide)) rfl ⟨(0 : Int32), rfl, h533⟩
theorem c10_in (a1 : Int32) (a2 : Int32) (a3 : Int32) (s : St) (Q : St → Prop) (h : inb 64 a1 ∧ inb 64 a1 ∧ (((a3 &&& (16 : Int32)) = (0 : Int32)) → inb 64 a1 ∧ Q (sI (sI (sI s 7 (ix a1) a3) 8 (ix a1) (1 : Int32)) 9 (ix a1) (0 : Int32))) ∧ (¬ ((a3 &&& (16 : Int32)) = (0 : Int32)) → calI PP 4 11 [.ref 0, .int a2] (sI (sI s 7 (ix a1) a3) 8 (ix a1) (1 : Int32)) (fun v541 s540 => calI PP 5 11 [.ref 0, .int a3] s540 (fun v544 s543 => inb 64 a1 ∧ Q (sI s543 9 (ix a1) (v541 &&& v544)))))) : calV PP 10 11 [.ref 0, .int a1, .int a2, .int a3] s Q := by
  refine cal_of (me := cm10) (ls := [some (.ref 0), some (.int a1), some (.int a2), some (.int a3)]) rfl (Nat.le_of_ble_eq_true rfl) rfl ?_
  refine wpc_sl (n := 4) (c' := 11) (pc' := 6) (ls' := [some (.ref 0), some (.int a1), some (.int a2), some (.int a3)]) (st' := [.int a3, .int a1, .ref 7]) (s' := s) rfl ?_
  refine wpc_staI (a := 6) (N := 64) (s' := (sI s 7 (ix a1) a3)) rfl rfl (by decide) h.1 rfl ?_
  have h534 := h.2
  refine wpc_sl (n := 4) (c' := 11) (pc' := 13) (ls' := [some (.ref 0), some (.int a1), some (.int a2), some (.int a3)]) (st' := [.int (1 : Int32), .int a1, .ref 8]) (s' := (sI s 7 (ix a1) a3)) rfl ?_
  refine wpc_staZ (a := 7) (N := 64) (s' := (sI (sI s 7 (ix a1) a3) 8 (ix a1) (1 : Int32))) rfl rfl (by decide) h534.1 rfl ?_
  have h535 := h534.2
  refine wpc_sl (n := 3) (c' := 11) (pc' := 18) (ls' := [some (.ref 0), some (.int a1), some (.int a2), some (.int a3)]) (st' := [.int (a3 &&& (16 : Int32))]) (s' := (sI (sI s 7 (ix a1) a3) 8 (ix a1) (1 : Int32))) rfl ?_
  refine wpc_if (a := 41) (b := 21) rfl (by decide) rfl rfl (wpc_br (p := (a3 &&& (16 : Int32)) = (0 : Int32)) ⟨fun hc536 => ?_, fun hc536 => ?_⟩)
  · have h537 := h535.1 hc536
    refine wpc_sl (n := 4) (c' := 11) (pc' := 47) (ls' := [some (.ref 0), some (.int a1), some (.int a2), some (.int a3)]) (st' := [.int (0 : Int32), .int a1, .ref 9]) (s' := (sI (sI s 7 (ix a1) a3) 8 (ix a1) (1 : Int32))) rfl ?_
    refine wpc_staI (a := 8) (N := 64) (s' := (sI (sI (sI s 7 (ix a1) a3) 8 (ix a1) (1 : Int32)) 9 (ix a1) (0 : Int32))) rfl rfl (by decide) h537.1 rfl ?_
    have h539 := h537.2
    exact wpc_ret rfl rfl (fun q => absurd q (by decide)) rfl ⟨rfl, h539⟩
  · have h538 := h535.2 hc536
    refine wpc_sl (n := 5) (c' := 11) (pc' := 28) (ls' := [some (.ref 0), some (.int a1), some (.int a2), some (.int a3)]) (st' := [.int a2, .ref 0, .int a1, .ref 9]) (s' := (sI (sI s 7 (ix a1) a3) 8 (ix a1) (1 : Int32))) rfl ?_
    refine wpc_callI (m' := 4) (me' := cm4) (as := [.int a2]) (r := [.int a1, .ref 9]) rfl rfl rfl rfl rfl ⟨by decide, (by first | decide | exact Nat.le_of_ble_eq_true rfl), (by first | decide | exact Nat.le_of_ble_eq_true rfl), rfl⟩ (calI.mono h538 fun v541 s540 h542 => ?_)
    refine wpc_sl (n := 2) (c' := 11) (pc' := 33) (ls' := [some (.ref 0), some (.int a1), some (.int a2), some (.int a3)]) (st' := [.int a3, .ref 0, .int v541, .int a1, .ref 9]) (s' := s540) rfl ?_
    refine wpc_callI (m' := 5) (me' := cm5) (as := [.int a3]) (r := [.int v541, .int a1, .ref 9]) rfl rfl rfl rfl rfl ⟨by decide, (by first | decide | exact Nat.le_of_ble_eq_true rfl), (by first | decide | exact Nat.le_of_ble_eq_true rfl), rfl⟩ (calI.mono h542 fun v544 s543 h545 => ?_)
    refine wpc_sl (n := 1) (c' := 11) (pc' := 37) (ls' := [some (.ref 0), some (.int a1), some (.int a2), some (.int a3)]) (st' := [.int (v541 &&& v544), .int a1, .ref 9]) (s' := s543) rfl ?_
    refine wpc_staI (a := 8) (N := 64) (s' := (sI s543 9 (ix a1) (v541 &&& v544))) rfl rfl (by decide) h545.1 rfl ?_
    have h546 := h545.2
    refine wpc_sl (n := 1) (c' := 11) (pc' := 48) (ls' := [some (.ref 0), some (.int a1), some (.int a2), some (.int a3)]) (st' := []) (s' := (sI s543 9 (ix a1) (v541 &&& v544))) rfl ?_
    exact wpc_ret rfl rfl (fun q => absurd q (by decide)) rfl ⟨rfl, h546⟩
theorem c19_in (a1 : Int32) (a2 : Int32) (a3 : Int32) (s : St) (Q : Int32 → St → Prop) (h : calI PP 6 11 [.ref 0, .int a1] s (fun v503 s502 => ((v503 = (0 : Int32)) → Q (-6 : Int32) s502) ∧ (¬ (v503 = (0 : Int32)) → calI PP 7 11 [.ref 0, .int a3] s502 (fun v509 s508 => ((v509 = (0 : Int32)) → Q (-6 : Int32) s508) ∧ (¬ (v509 = (0 : Int32)) → calI PP 3 11 [.ref 0, .int a2] s508 (fun v515 s514 => ((v515 = (0 : Int32)) → Q (-1 : Int32) s514) ∧ (¬ (v515 = (0 : Int32)) → calI PP 8 11 [.ref 0, .int a1, .int a2] s514 (fun v521 s520 => inb 64 v521 ∧ (((gI s520 6 (ix v521)) = (0 : Int32)) → inb 64 v521 ∧ calV PP 10 11 [.ref 0, .int v521, .int a2, .int a3] (sI s520 6 (ix v521) (1 : Int32)) (fun s528 => Q (0 : Int32) s528)) ∧ (¬ ((gI s520 6 (ix v521)) = (0 : Int32)) → Q (-5 : Int32) s520))))))))) : calI PP 19 11 [.ref 0, .int a1, .int a2, .int a3] s Q := by
  refine cal_of (me := cm19) (ls := [some (.ref 0), some (.int a1), some (.int a2), some (.int a3), none]) rfl (Nat.le_of_ble_eq_true rfl) rfl ?_
  refine wpc_sl (n := 2) (c' := 11) (pc' := 2) (ls' := [some (.ref 0), some (.int a1), some (.int a2), some (.int a3), none]) (st' := [.int a1, .ref 0]) (s' := s) rfl ?_
  refine wpc_callI (m' := 6) (me' := cm6) (as := [.int a1]) (r := []) rfl rfl rfl rfl rfl ⟨by decide, (by first | decide | exact Nat.le_of_ble_eq_true rfl), (by first | decide | exact Nat.le_of_ble_eq_true rfl), rfl⟩ (calI.mono h fun v503 s502 h504 => ?_)
  refine wpc_if (a := 16) (b := 8) rfl (by decide) rfl rfl (wpc_br (p := v503 = (0 : Int32)) ⟨fun hc505 => ?_, fun hc505 => ?_⟩)
  · have h506 := h504.1 hc505
    refine wpc_sl (n := 1) (c' := 11) (pc' := 18) (ls' := [some (.ref 0), some (.int a1), some (.int a2), some (.int a3), none]) (st' := [.int (-6 : Int32)]) (s' := s502) rfl ?_
    exact wpc_ret rfl rfl (fun q => absurd q (by decide)) rfl ⟨(-6 : Int32), rfl, h506⟩
  · have h507 := h504.2 hc505
    refine wpc_sl (n := 2) (c' := 11) (pc' := 10) (ls' := [some (.ref 0), some (.int a1), some (.int a2), some (.int a3), none]) (st' := [.int a3, .ref 0]) (s' := s502) rfl ?_
    refine wpc_callI (m' := 7) (me' := cm7) (as := [.int a3]) (r := []) rfl rfl rfl rfl rfl ⟨by decide, (by first | decide | exact Nat.le_of_ble_eq_true rfl), (by first | decide | exact Nat.le_of_ble_eq_true rfl), rfl⟩ (calI.mono h507 fun v509 s508 h510 => ?_)
    refine wpc_if (a := 19) (b := 16) rfl (by decide) rfl rfl (wpc_br (p := v509 = (0 : Int32)) ⟨fun hc511 => ?_, fun hc511 => ?_⟩)
    · have h512 := h510.1 hc511
      refine wpc_sl (n := 1) (c' := 11) (pc' := 18) (ls' := [some (.ref 0), some (.int a1), some (.int a2), some (.int a3), none]) (st' := [.int (-6 : Int32)]) (s' := s508) rfl ?_
      exact wpc_ret rfl rfl (fun q => absurd q (by decide)) rfl ⟨(-6 : Int32), rfl, h512⟩
    · have h513 := h510.2 hc511
      refine wpc_sl (n := 2) (c' := 11) (pc' := 21) (ls' := [some (.ref 0), some (.int a1), some (.int a2), some (.int a3), none]) (st' := [.int a2, .ref 0]) (s' := s508) rfl ?_
      refine wpc_callI (m' := 3) (me' := cm3) (as := [.int a2]) (r := []) rfl rfl rfl rfl rfl ⟨by decide, (by first | decide | exact Nat.le_of_ble_eq_true rfl), (by first | decide | exact Nat.le_of_ble_eq_true rfl), rfl⟩ (calI.mono h513 fun v515 s514 h516 => ?_)
      refine wpc_if (a := 29) (b := 27) rfl (by decide) rfl rfl (wpc_br (p := v515 = (0 : Int32)) ⟨fun hc517 => ?_, fun hc517 => ?_⟩)
      · have h518 := h516.1 hc517
        refine wpc_sl (n := 1) (c' := 11) (pc' := 28) (ls' := [some (.ref 0), some (.int a1), some (.int a2), some (.int a3), none]) (st' := [.int (-1 : Int32)]) (s' := s514) rfl ?_
        exact wpc_ret rfl rfl (fun q => absurd q (by decide)) rfl ⟨(-1 : Int32), rfl, h518⟩
      · have h519 := h516.2 hc517
        refine wpc_sl (n := 3) (c' := 11) (pc' := 32) (ls' := [some (.ref 0), some (.int a1), some (.int a2), some (.int a3), none]) (st' := [.int a2, .int a1, .ref 0]) (s' := s514) rfl ?_
        refine wpc_callI (m' := 8) (me' := cm8) (as := [.int a1, .int a2]) (r := []) rfl rfl rfl rfl rfl ⟨by decide, (by first | decide | exact Nat.le_of_ble_eq_true rfl), (by first | decide | exact Nat.le_of_ble_eq_true rfl), rfl⟩ (calI.mono h519 fun v521 s520 h522 => ?_)
        refine wpc_sl (n := 4) (c' := 11) (pc' := 43) (ls' := [some (.ref 0), some (.int a1), some (.int a2), some (.int a3), some (.int v521)]) (st' := [.int v521, .ref 6]) (s' := s520) rfl ?_
        refine wpc_ldaZ (a := 5) (N := 64) (v := (gI s520 6 (ix v521))) rfl rfl (by decide) h522.1 rfl ?_
        have h523 := h522.2
        refine wpc_if (a := 50) (b := 47) rfl (by decide) rfl rfl (wpc_br (p := (gI s520 6 (ix v521)) = (0 : Int32)) ⟨fun hc524 => ?_, fun hc524 => ?_⟩)
        · have h525 := h523.1 hc524
          refine wpc_sl (n := 4) (c' := 11) (pc' := 57) (ls' := [some (.ref 0), some (.int a1), some (.int a2), some (.int a3), some (.int v521)]) (st' := [.int (1 : Int32), .int v521, .ref 6]) (s' := s520) rfl ?_
          refine wpc_staZ (a := 5) (N := 64) (s' := (sI s520 6 (ix v521) (1 : Int32))) rfl rfl (by decide) h525.1 rfl ?_
          have h527 := h525.2
          refine wpc_sl (n := 4) (c' := 11) (pc' := 63) (ls' := [some (.ref 0), some (.int a1), some (.int a2), some (.int a3), some (.int v521)]) (st' := [.int a3, .int a2, .int v521, .ref 0]) (s' := (sI s520 6 (ix v521) (1 : Int32))) rfl ?_
          refine wpc_callV (m' := 10) (me' := cm10) (as := [.int v521, .int a2, .int a3]) (r := []) rfl rfl rfl rfl rfl ⟨by decide, (by first | decide | exact Nat.le_of_ble_eq_true rfl), (by first | decide | exact Nat.le_of_ble_eq_true rfl), rfl⟩ (calV.mono h527 fun s528 h530 => ?_)
          refine wpc_sl (n := 1) (c' := 11) (pc' := 67) (ls' := [some (.ref 0), some (.int a1), some (.int a2), some (.int a3), some (.int v521)]) (st' := [.int (0 : Int32)]) (s' := s528) rfl ?_
          exact wpc_ret rfl rfl (fun q => absurd q (by decide)) rfl ⟨(0 : Int32), rfl, h530⟩
        · have h526 := h523.2 hc524
          refine wpc_sl (n := 1) (c' := 11) (pc' := 49) (ls' := [some (.ref 0), some (.int a1), some (.int a2), some (.int a3), some (.int v521)]) (st' := [.int (-5 : Int32)]) (s' := s520) rfl ?_
          exact wpc_ret rfl rfl (fun q => absurd q (by decide)) rfl ⟨(-5 : Int32), rfl, h526⟩
theorem c20_in (a1 : Int32) (a2 : Int32) (a3 : Int32) (s : St) (Q : Int32 → St → Prop) (h : calI PP 6 11 [.ref 0, .int a1] s (fun v548 s547 => ((v548 = (0 : Int32)) → Q (-6 : Int32) s547) ∧ (¬ (v548 = (0 : Int32)) → calI PP 7 11 [.ref 0, .int a3] s547 (fun v554 s553 => ((v554 = (0 : Int32)) → Q (-6 : Int32) s553) ∧ (¬ (v554 = (0 : Int32)) → calI PP 3 11 [.ref 0, .int a2] s553 (fun v560 s559 => ((v560 = (0 : Int32)) → Q (-1 : Int32) s559) ∧ (¬ (v560 = (0 : Int32)) → calI PP 8 11 [.ref 0, .int a1, .int a2] s559 (fun v566 s565 => inb 64 v566 ∧ (((gI s565 6 (ix v566)) = (0 : Int32)) → Q (-7 : Int32) s565) ∧ (¬ ((gI s565 6 (ix v566)) = (0 : Int32)) → calV PP 10 11 [.ref 0, .int v566, .int a2, .int a3] s565 (fun s572 => Q (0 : Int32) s572)))))))))) : calI PP 20 11 [.ref 0, .int a1, .int a2, .int a3] s Q := by
  refine cal_of (me := cm20) (ls := [some (.ref 0), some (.int a1), some (.int a2), some (.int a3), none]) rfl (Nat.le_of_ble_eq_true rfl) rfl ?_
  refine wpc_sl (n := 2) (c' := 11) (pc' := 2) (ls' := [some (.ref 0), some (.int a1), some (.int a2), some (.int a3), none]) (st' := [.int a1, .ref 0]) (s' := s) rfl ?_
  refine wpc_callI (m' := 6) (me' := cm6) (as := [.int a1]) (r := []) rfl rfl rfl rfl rfl ⟨by decide, (by first | decide | exact Nat.le_of_ble_eq_true rfl), (by first | decide | exact Nat.le_of_ble_eq_true rfl), rfl⟩ (calI.mono h fun v548 s547 h549 => ?_)
  refine wpc_if (a := 16) (b := 8) rfl (by decide) rfl rfl (wpc_br (p := v548 = (0 : Int32)) ⟨fun hc550 => ?_, fun hc550 => ?_⟩)
  · have h551 := h549.1 hc550
    refine wpc_sl (n := 1) (c' := 11) (pc' := 18) (ls' := [some (.ref 0), some (.int a1), some (.int a2), some (.int a3), none]) (st' := [.int (-6 : Int32)]) (s' := s547) rfl ?_
    exact wpc_ret rfl rfl (fun q => absurd q (by decide)) rfl ⟨(-6 : Int32), rfl, h551⟩
  · have h552 := h549.2 hc550
    refine wpc_sl (n := 2) (c' := 11) (pc' := 10) (ls' := [some (.ref 0), some (.int a1), some (.int a2), some (.int a3), none]) (st' := [.int a3, .ref 0]) (s' := s547) rfl ?_
    refine wpc_callI (m' := 7) (me' := cm7) (as := [.int a3]) (r := []) rfl rfl rfl rfl rfl ⟨by decide, (by first | decide | exact Nat.le_of_ble_eq_true rfl), (by first | decide | exact Nat.le_of_ble_eq_true rfl), rfl⟩ (calI.mono h552 fun v554 s553 h555 => ?_)
    refine wpc_if (a := 19) (b := 16) rfl (by decide) rfl rfl (wpc_br (p := v554 = (0 : Int32)) ⟨fun hc556 => ?_, fun hc556 => ?_⟩)
    · have h557 := h555.1 hc556
      refine wpc_sl (n := 1) (c' := 11) (pc' := 18) (ls' := [some (.ref 0), some (.int a1), some (.int a2), some (.int a3), none]) (st' := [.int (-6 : Int32)]) (s' := s553) rfl ?_
      exact wpc_ret rfl rfl (fun q => absurd q (by decide)) rfl ⟨(-6 : Int32), rfl, h557⟩
    · have h558 := h555.2 hc556
      refine wpc_sl (n := 2) (c' := 11) (pc' := 21) (ls' := [some (.ref 0), some (.int a1), some (.int a2), some (.int a3), none]) (st' := [.int a2, .ref 0]) (s' := s553) rfl ?_
      refine wpc_callI (m' := 3) (me' := cm3) (as := [.int a2]) (r := []) rfl rfl rfl rfl rfl ⟨by decide, (by first | decide | exact Nat.le_of_ble_eq_true rfl), (by first | decide | exact Nat.le_of_ble_eq_true rfl), rfl⟩ (calI.mono h558 fun v560 s559 h561 => ?_)
      refine wpc_if (a := 29) (b := 27) rfl (by decide) rfl rfl (wpc_br (p := v560 = (0 : Int32)) ⟨fun hc562 => ?_, fun hc562 => ?_⟩)
      · have h563 := h561.1 hc562
        refine wpc_sl (n := 1) (c' := 11) (pc' := 28) (ls' := [some (.ref 0), some (.int a1), some (.int a2), some (.int a3), none]) (st' := [.int (-1 : Int32)]) (s' := s559) rfl ?_
        exact wpc_ret rfl rfl (fun q => absurd q (by decide)) rfl ⟨(-1 : Int32), rfl, h563⟩
      · have h564 := h561.2 hc562
        refine wpc_sl (n := 3) (c' := 11) (pc' := 32) (ls' := [some (.ref 0), some (.int a1), some (.int a2), some (.int a3), none]) (st' := [.int a2, .int a1, .ref 0]) (s' := s559) rfl ?_
        refine wpc_callI (m' := 8) (me' := cm8) (as := [.int a1, .int a2]) (r := []) rfl rfl rfl rfl rfl ⟨by decide, (by first | decide | exact Nat.le_of_ble_eq_true rfl), (by first | decide | exact Nat.le_of_ble_eq_true rfl), rfl⟩ (calI.mono h564 fun v566 s565 h567 => ?_)
        refine wpc_sl (n := 4) (c' := 11) (pc' := 43) (ls' := [some (.ref 0), some (.int a1), some (.int a2), some (.int a3), some (.int v566)]) (st' := [.int v566, .ref 6]) (s' := s565) rfl ?_
        refine wpc_ldaZ (a := 5) (N := 64) (v := (gI s565 6 (ix v566))) rfl rfl (by decide) h567.1 rfl ?_
        have h568 := h567.2
        refine wpc_if (a := 50) (b := 47) rfl (by decide) rfl rfl (wpc_br (p := (gI s565 6 (ix v566)) = (0 : Int32)) ⟨fun hc569 => ?_, fun hc569 => ?_⟩)
        · have h570 := h568.1 hc569
          refine wpc_sl (n := 1) (c' := 11) (pc' := 49) (ls' := [some (.ref 0), some (.int a1), some (.int a2), some (.int a3), some (.int v566)]) (st' := [.int (-7 : Int32)]) (s' := s565) rfl ?_
          exact wpc_ret rfl rfl (fun q => absurd q (by decide)) rfl ⟨(-7 : Int32), rfl, h570⟩
        · have h571 := h568.2 hc569
          refine wpc_sl (n := 4) (c' := 11) (pc' := 55) (ls' := [some (.ref 0), some (.int a1), some (.int a2), some (.int a3), some (.int v566)]) (st' := [.int a3, .int a2, .int v566, .ref 0]) (s' := s565) rfl ?_
          refine wpc_callV (m' := 10) (me' := cm10) (as := [.int v566, .int a2, .int a3]) (r := []) rfl rfl rfl rfl rfl ⟨by decide, (by first | decide | exact Nat.le_of_ble_eq_true rfl), (by first | decide | exact Nat.le_of_ble_eq_true rfl), rfl⟩ (calV.mono h571 fun s572 h574 => ?_)
          refine wpc_sl (n := 1) (c' := 11) (pc' := 59) (ls' := [some (.ref 0), some (.int a1), some (.int a2), some (.int a3), some (.int v566)]) (st' := [.int (0 : Int32)]) (s' := s572) rfl ?_
          exact wpc_ret rfl rfl (fun q => absurd q (by decide)) rfl ⟨(0 : Int32), rfl, h574⟩
theorem c14_in (a1 : Int32) (a2 : Int32) (s : St) (Q : Int32 → St → Prop) (h : calI PP 6 11 [.ref 0, .int a1] s (fun v587 s586 => ((v587 = (0 : Int32)) → Q (-1 : Int32) s586) ∧ (¬ (v587 = (0 : Int32)) → calI PP 3 11 [.ref 0, .int a2] s586 (fun v593 s592 => ((v593 = (0 : Int32)) → Q (-1 : Int32) s592) ∧ (¬ (v593 = (0 : Int32)) → calI PP 8 11 [.ref 0, .int a1, .int a2] s592 (fun v599 s598 => inb 64 v599 ∧ (((gI s598 6 (ix v599)) = (0 : Int32)) → Q (-1 : Int32) s598) ∧ (¬ ((gI s598 6 (ix v599)) = (0 : Int32)) → Q v599 s598))))))) : calI PP 14 11 [.ref 0, .int a1, .int a2] s Q := by
  refine cal_of (me := cm14) (ls := [some (.ref 0), some (.int a1), some (.int a2), none]) rfl (Nat.le_of_ble_eq_true rfl) rfl ?_
  refine wpc_sl (n := 2) (c' := 11) (pc' := 2) (ls' := [some (.ref 0), some (.int a1), some (.int a2), none]) (st' := [.int a1, .ref 0]) (s' := s) rfl ?_
  refine wpc_callI (m' := 6) (me' := cm6) (as := [.int a1]) (r := []) rfl rfl rfl rfl rfl ⟨by decide, (by first | decide | exact Nat.le_of_ble_eq_true rfl), (by first | decide | exact Nat.le_of_ble_eq_true rfl), rfl⟩ (calI.mono h fun v587 s586 h588 => ?_)
  refine wpc_if (a := 16) (b := 8) rfl (by decide) rfl rfl (wpc_br (p := v587 = (0 : Int32)) ⟨fun hc589 => ?_, fun hc589 => ?_⟩)
  · have h590 := h588.1 hc589
    refine wpc_sl (n := 1) (c' := 11) (pc' := 17) (ls' := [some (.ref 0), some (.int a1), some (.int a2), none]) (st' := [.int (-1 : Int32)]) (s' := s586) rfl ?_
    exact wpc_ret rfl rfl (fun q => absurd q (by decide)) rfl ⟨(-1 : Int32), rfl, h590⟩
  · have h591 := h588.2 hc589
    refine wpc_sl (n := 2) (c' := 11) (pc' := 10) (ls' := [some (.ref 0), some (.int a1), some (.int a2), none]) (st' := [.int a2, .ref 0]) (s' := s586) rfl ?_
    refine wpc_callI (m' := 3) (me' := cm3) (as := [.int a2]) (r := []) rfl rfl rfl rfl rfl ⟨by decide, (by first | decide | exact Nat.le_of_ble_eq_true rfl), (by first | decide | exact Nat.le_of_ble_eq_true rfl), rfl⟩ (calI.mono h591 fun v593 s592 h594 => ?_)
    refine wpc_if (a := 18) (b := 16) rfl (by decide) rfl rfl (wpc_br (p := v593 = (0 : Int32)) ⟨fun hc595 => ?_, fun hc595 => ?_⟩)
    · have h596 := h594.1 hc595
      refine wpc_sl (n := 1) (c' := 11) (pc' := 17) (ls' := [some (.ref 0), some (.int a1), some (.int a2), none]) (st' := [.int (-1 : Int32)]) (s' := s592) rfl ?_
      exact wpc_ret rfl rfl (fun q => absurd q (by decide)) rfl ⟨(-1 : Int32), rfl, h596⟩
    · have h597 := h594.2 hc595
      refine wpc_sl (n := 3) (c' := 11) (pc' := 21) (ls' := [some (.ref 0), some (.int a1), some (.int a2), none]) (st' := [.int a2, .int a1, .ref 0]) (s' := s592) rfl ?_
      refine wpc_callI (m' := 8) (me' := cm8) (as := [.int a1, .int a2]) (r := []) rfl rfl rfl rfl rfl ⟨by decide, (by first | decide | exact Nat.le_of_ble_eq_true rfl), (by first | decide | exact Nat.le_of_ble_eq_true rfl), rfl⟩ (calI.mono h597 fun v599 s598 h600 => ?_)
      refine wpc_sl (n := 4) (c' := 11) (pc' := 30) (ls' := [some (.ref 0), some (.int a1), some (.int a2), some (.int v599)]) (st' := [.int v599, .ref 6]) (s' := s598) rfl ?_
      refine wpc_ldaZ (a := 5) (N := 64) (v := (gI s598 6 (ix v599))) rfl rfl (by decide) h600.1 rfl ?_
      have h601 := h600.2
      refine wpc_if (a := 36) (b := 34) rfl (by decide) rfl rfl (wpc_br (p := (gI s598 6 (ix v599)) = (0 : Int32)) ⟨fun hc602 => ?_, fun hc602 => ?_⟩)
      · have h603 := h601.1 hc602
        refine wpc_sl (n := 1) (c' := 11) (pc' := 35) (ls' := [some (.ref 0), some (.int a1), some (.int a2), some (.int v599)]) (st' := [.int (-1 : Int32)]) (s' := s598) rfl ?_
        exact wpc_ret rfl rfl (fun q => absurd q (by decide)) rfl ⟨(-1 : Int32), rfl, h603⟩
      · have h604 := h601.2 hc602
        refine wpc_sl (n := 1) (c' := 11) (pc' := 37) (ls' := [some (.ref 0), some (.int a1), some (.int a2), some (.int v599)]) (st' := [.int v599]) (s' := s598) rfl ?_
        exact wpc_ret rfl rfl (fun q => absurd q (by decide)) rfl ⟨v599, rfl, h604⟩
theorem c28_in (a1 : Int32) (a2 : Int32) (s : St) (Q : Int32 → St → Prop) (h : calI PP 14 11 [.ref 0, .int a1, .int a2] s (fun v576 s575 => ((v576 < (0 : Int32)) → Q (-1 : Int32) s575) ∧ (¬ (v576 < (0 : Int32)) → inb 64 v576 ∧ inb 64 v576 ∧ (((gI s575 8 (ix v576)) = (0 : Int32)) → Q ((gI s575 7 (ix v576)) ||| (64 : Int32)) s575) ∧ (¬ ((gI s575 8 (ix v576)) = (0 : Int32)) → Q (gI s575 7 (ix v576)) s575)))) : calI PP 28 11 [.ref 0, .int a1, .int a2] s Q := by
  refine cal_of (me := cm28) (ls := [some (.ref 0), some (.int a1), some (.int a2), none, none]) rfl (Nat.le_of_ble_eq_true rfl) rfl ?_
  refine wpc_sl (n := 3) (c' := 11) (pc' := 3) (ls' := [some (.ref 0), some (.int a1), some (.int a2), none, none]) (st' := [.int a2, .int a1, .ref 0]) (s' := s) rfl ?_
  refine wpc_callI (m' := 14) (me' := cm14) (as := [.int a1, .int a2]) (r := []) rfl rfl rfl rfl rfl ⟨by decide, (by first | decide | exact Nat.le_of_ble_eq_true rfl), (by first | decide | exact Nat.le_of_ble_eq_true rfl), rfl⟩ (calI.mono h fun v576 s575 h577 => ?_)
  refine wpc_sl (n := 2) (c' := 11) (pc' := 8) (ls' := [some (.ref 0), some (.int a1), some (.int a2), some (.int v576), none]) (st' := [.int v576]) (s' := s575) rfl ?_
  refine wpc_if (a := 13) (b := 11) rfl (by decide) rfl rfl (wpc_br (p := v576 < (0 : Int32)) ⟨fun hc578 => ?_, fun hc578 => ?_⟩)
  · have h579 := h577.1 hc578
    refine wpc_sl (n := 1) (c' := 11) (pc' := 12) (ls' := [some (.ref 0), some (.int a1), some (.int a2), some (.int v576), none]) (st' := [.int (-1 : Int32)]) (s' := s575) rfl ?_
    exact wpc_ret rfl rfl (fun q => absurd q (by decide)) rfl ⟨(-1 : Int32), rfl, h579⟩
  · have h580 := h577.2 hc578
    refine wpc_sl (n := 3) (c' := 11) (pc' := 18) (ls' := [some (.ref 0), some (.int a1), some (.int a2), some (.int v576), none]) (st' := [.int v576, .ref 7]) (s' := s575) rfl ?_
    refine wpc_ldaI (a := 6) (N := 64) (v := (gI s575 7 (ix v576))) rfl rfl (by decide) h580.1 rfl ?_
    have h581 := h580.2
    refine wpc_sl (n := 4) (c' := 11) (pc' := 26) (ls' := [some (.ref 0), some (.int a1), some (.int a2), some (.int v576), some (.int (gI s575 7 (ix v576)))]) (st' := [.int v576, .ref 8]) (s' := s575) rfl ?_
    refine wpc_ldaZ (a := 7) (N := 64) (v := (gI s575 8 (ix v576))) rfl rfl (by decide) h581.1 rfl ?_
    have h582 := h581.2
    refine wpc_if (a := 37) (b := 30) rfl (by decide) rfl rfl (wpc_br (p := (gI s575 8 (ix v576)) = (0 : Int32)) ⟨fun hc583 => ?_, fun hc583 => ?_⟩)
    · have h584 := h582.1 hc583
      refine wpc_sl (n := 5) (c' := 11) (pc' := 39) (ls' := [some (.ref 0), some (.int a1), some (.int a2), some (.int v576), some (.int ((gI s575 7 (ix v576)) ||| (64 : Int32)))]) (st' := [.int ((gI s575 7 (ix v576)) ||| (64 : Int32))]) (s' := s575) rfl ?_
      exact wpc_ret rfl rfl (fun q => absurd q (by decide)) rfl ⟨((gI s575 7 (ix v576)) ||| (64 : Int32)), rfl, h584⟩
    · have h585 := h582.2 hc583
      refine wpc_sl (n := 1) (c' := 11) (pc' := 39) (ls' := [some (.ref 0), some (.int a1), some (.int a2), some (.int v576), some (.int (gI s575 7 (ix v576)))]) (st' := [.int (gI s575 7 (ix v576))]) (s' := s575) rfl ?_
      exact wpc_ret rfl rfl (fun q => absurd q (by decide)) rfl ⟨(gI s575 7 (ix v576)), rfl, h585⟩
theorem l6W1_in (N : Nat) (sg : Nat → Int32) (a0 : Int64) (a1 : Int32) (s : St) (Q : Int32 → Wd → Prop) (h : Q (Int64.toInt32 ((XT.ushrL a0 ((4 : Int32) * a1)) &&& (15 : Int64))) (W1 s)) : lalI PP QQ (some (N, sg)) 6 [.long a0, .int a1] (W1 s) Q := by
  refine lal_of (me := lm6) (ls := [some (.long a0), none, some (.int a1)]) rfl (Nat.le_of_ble_eq_true rfl) rfl ?_
  refine wpl_sl (n := 8) (pc' := 10) (ls' := [some (.long a0), none, some (.int a1)]) (st' := [.int (Int64.toInt32 ((XT.ushrL a0 ((4 : Int32) * a1)) &&& (15 : Int64)))]) rfl ?_
  exact wpl_ret rfl rfl rfl ⟨(Int64.toInt32 ((XT.ushrL a0 ((4 : Int32) * a1)) &&& (15 : Int64))), rfl, h⟩
theorem l8W1_in (N : Nat) (sg : Nat → Int32) (a0 : Int32) (a1 : Int32) (a2 : Int32) (s : St) (Q : Int32 → Wd → Prop) (h : ((a0 < (0 : Int32)) → Q (0 : Int32) (W1 s)) ∧ (¬ (a0 < (0 : Int32)) → (((a0 &&& (64 : Int32)) = (0 : Int32)) → (((a0 &&& (16 : Int32)) = (0 : Int32)) → Q (a1 &&& ((a0 &&& (3 : Int32)) ||| (12 : Int32))) (W1 s)) ∧ (¬ ((a0 &&& (16 : Int32)) = (0 : Int32)) → Q ((a1 &&& ((a0 &&& (3 : Int32)) ||| (12 : Int32))) &&& a2) (W1 s))) ∧ (¬ ((a0 &&& (64 : Int32)) = (0 : Int32)) → Q (0 : Int32) (W1 s)))) : lalI PP QQ (some (N, sg)) 8 [.int a0, .int a1, .int a2] (W1 s) Q := by
  refine lal_of (me := lm8) (ls := [some (.int a0), some (.int a1), some (.int a2), none]) rfl (Nat.le_of_ble_eq_true rfl) rfl ?_
  refine wpl_sl (n := 1) (pc' := 1) (ls' := [some (.int a0), some (.int a1), some (.int a2), none]) (st' := [.int a0]) rfl ?_
  refine wpl_if (a := 11) (b := 4) rfl (by decide) rfl rfl (wpl_br (p := a0 < (0 : Int32)) ⟨fun hc605 => ?_, fun hc605 => ?_⟩)
  · have h606 := h.1 hc605
    refine wpl_sl (n := 1) (pc' := 12) (ls' := [some (.int a0), some (.int a1), some (.int a2), none]) (st' := [.int (0 : Int32)]) rfl ?_
    exact wpl_ret rfl rfl rfl ⟨(0 : Int32), rfl, h606⟩
  · have h607 := h.2 hc605
    refine wpl_sl (n := 3) (pc' := 8) (ls' := [some (.int a0), some (.int a1), some (.int a2), none]) (st' := [.int (a0 &&& (64 : Int32))]) rfl ?_
    refine wpl_if (a := 13) (b := 11) rfl (by decide) rfl rfl (wpl_br (p := (a0 &&& (64 : Int32)) = (0 : Int32)) ⟨fun hc608 => ?_, fun hc608 => ?_⟩)
    · have h609 := h607.1 hc608
      refine wpl_sl (n := 5) (pc' := 19) (ls' := [some (.int a0), some (.int a1), some (.int a2), none]) (st' := [.int (12 : Int32), .int (a0 &&& (3 : Int32)), .int a1]) rfl ?_
      refine wpl_sl (n := 5) (pc' := 25) (ls' := [some (.int a0), some (.int a1), some (.int a2), some (.int (a1 &&& ((a0 &&& (3 : Int32)) ||| (12 : Int32))))]) (st' := [.int (16 : Int32), .int a0]) rfl ?_
      refine wpl_sl (n := 1) (pc' := 26) (ls' := [some (.int a0), some (.int a1), some (.int a2), some (.int (a1 &&& ((a0 &&& (3 : Int32)) ||| (12 : Int32))))]) (st' := [.int (a0 &&& (16 : Int32))]) rfl ?_
      refine wpl_if (a := 33) (b := 29) rfl (by decide) rfl rfl (wpl_br (p := (a0 &&& (16 : Int32)) = (0 : Int32)) ⟨fun hc611 => ?_, fun hc611 => ?_⟩)
      · have h612 := h609.1 hc611
        refine wpl_sl (n := 1) (pc' := 34) (ls' := [some (.int a0), some (.int a1), some (.int a2), some (.int (a1 &&& ((a0 &&& (3 : Int32)) ||| (12 : Int32))))]) (st' := [.int (a1 &&& ((a0 &&& (3 : Int32)) ||| (12 : Int32)))]) rfl ?_
        exact wpl_ret rfl rfl rfl ⟨(a1 &&& ((a0 &&& (3 : Int32)) ||| (12 : Int32))), rfl, h612⟩
      · have h613 := h609.2 hc611
        refine wpl_sl (n := 5) (pc' := 34) (ls' := [some (.int a0), some (.int a1), some (.int a2), some (.int ((a1 &&& ((a0 &&& (3 : Int32)) ||| (12 : Int32))) &&& a2))]) (st' := [.int ((a1 &&& ((a0 &&& (3 : Int32)) ||| (12 : Int32))) &&& a2)]) rfl ?_
        exact wpl_ret rfl rfl rfl ⟨((a1 &&& ((a0 &&& (3 : Int32)) ||| (12 : Int32))) &&& a2), rfl, h613⟩
    · have h610 := h607.2 hc608
      refine wpl_sl (n := 1) (pc' := 12) (ls' := [some (.int a0), some (.int a1), some (.int a2), none]) (st' := [.int (0 : Int32)]) rfl ?_
      exact wpl_ret rfl rfl rfl ⟨(0 : Int32), rfl, h610⟩
theorem c9_in (a1 : Int32) (a2 : Int32) (s : St) (Q : Int32 → St → Prop) (h : inb 64 a1 ∧ (((gI s 8 (ix a1)) = (0 : Int32)) → Q (0 : Int32) s) ∧ (¬ ((gI s 8 (ix a1)) = (0 : Int32)) → inb 64 a1 ∧ ((((gI s 7 (ix a1)) &&& (16 : Int32)) = (0 : Int32)) → calI PP 4 11 [.ref 0, .int a2] s (fun v660 s659 => inb 64 a1 ∧ calI PP 5 11 [.ref 0, .int (gI s659 7 (ix a1))] s659 (fun v664 s663 => Q (v660 &&& v664) s663))) ∧ (¬ (((gI s 7 (ix a1)) &&& (16 : Int32)) = (0 : Int32)) → inb 64 a1 ∧ Q (gI s 9 (ix a1)) s))) : calI PP 9 11 [.ref 0, .int a1, .int a2] s Q := by
  refine cal_of (me := cm9) (ls := [some (.ref 0), some (.int a1), some (.int a2)]) rfl (Nat.le_of_ble_eq_true rfl) rfl ?_
  refine wpc_sl (n := 3) (c' := 11) (pc' := 5) (ls' := [some (.ref 0), some (.int a1), some (.int a2)]) (st' := [.int a1, .ref 8]) (s' := s) rfl ?_
  refine wpc_ldaZ (a := 7) (N := 64) (v := (gI s 8 (ix a1))) rfl rfl (by decide) h.1 rfl ?_
  have h651 := h.2
  refine wpc_if (a := 11) (b := 9) rfl (by decide) rfl rfl (wpc_br (p := (gI s 8 (ix a1)) = (0 : Int32)) ⟨fun hc652 => ?_, fun hc652 => ?_⟩)
  · have h653 := h651.1 hc652
    refine wpc_sl (n := 1) (c' := 11) (pc' := 10) (ls' := [some (.ref 0), some (.int a1), some (.int a2)]) (st' := [.int (0 : Int32)]) (s' := s) rfl ?_
    exact wpc_ret rfl rfl (fun q => absurd q (by decide)) rfl ⟨(0 : Int32), rfl, h653⟩
  · have h654 := h651.2 hc652
    refine wpc_sl (n := 3) (c' := 11) (pc' := 16) (ls' := [some (.ref 0), some (.int a1), some (.int a2)]) (st' := [.int a1, .ref 7]) (s' := s) rfl ?_
    refine wpc_ldaI (a := 6) (N := 64) (v := (gI s 7 (ix a1))) rfl rfl (by decide) h654.1 rfl ?_
    have h655 := h654.2
    refine wpc_sl (n := 2) (c' := 11) (pc' := 20) (ls' := [some (.ref 0), some (.int a1), some (.int a2)]) (st' := [.int ((gI s 7 (ix a1)) &&& (16 : Int32))]) (s' := s) rfl ?_
    refine wpc_if (a := 30) (b := 23) rfl (by decide) rfl rfl (wpc_br (p := ((gI s 7 (ix a1)) &&& (16 : Int32)) = (0 : Int32)) ⟨fun hc656 => ?_, fun hc656 => ?_⟩)
    · have h657 := h655.1 hc656
      refine wpc_sl (n := 2) (c' := 11) (pc' := 32) (ls' := [some (.ref 0), some (.int a1), some (.int a2)]) (st' := [.int a2, .ref 0]) (s' := s) rfl ?_
      refine wpc_callI (m' := 4) (me' := cm4) (as := [.int a2]) (r := []) rfl rfl rfl rfl rfl ⟨by decide, (by first | decide | exact Nat.le_of_ble_eq_true rfl), (by first | decide | exact Nat.le_of_ble_eq_true rfl), rfl⟩ (calI.mono h657 fun v660 s659 h661 => ?_)
      refine wpc_sl (n := 4) (c' := 11) (pc' := 41) (ls' := [some (.ref 0), some (.int a1), some (.int a2)]) (st' := [.int a1, .ref 7, .ref 0, .int v660]) (s' := s659) rfl ?_
      refine wpc_ldaI (a := 6) (N := 64) (v := (gI s659 7 (ix a1))) rfl rfl (by decide) h661.1 rfl ?_
      have h662 := h661.2
      refine wpc_callI (m' := 5) (me' := cm5) (as := [.int (gI s659 7 (ix a1))]) (r := [.int v660]) rfl rfl rfl rfl rfl ⟨by decide, (by first | decide | exact Nat.le_of_ble_eq_true rfl), (by first | decide | exact Nat.le_of_ble_eq_true rfl), rfl⟩ (calI.mono h662 fun v664 s663 h665 => ?_)
      refine wpc_sl (n := 1) (c' := 11) (pc' := 46) (ls' := [some (.ref 0), some (.int a1), some (.int a2)]) (st' := [.int (v660 &&& v664)]) (s' := s663) rfl ?_
      exact wpc_ret rfl rfl (fun q => absurd q (by decide)) rfl ⟨(v660 &&& v664), rfl, h665⟩
    · have h658 := h655.2 hc656
      refine wpc_sl (n := 3) (c' := 11) (pc' := 28) (ls' := [some (.ref 0), some (.int a1), some (.int a2)]) (st' := [.int a1, .ref 9]) (s' := s) rfl ?_
      refine wpc_ldaI (a := 8) (N := 64) (v := (gI s 9 (ix a1))) rfl rfl (by decide) h658.1 rfl ?_
      have h666 := h658.2
      exact wpc_ret rfl rfl (fun q => absurd q (by decide)) rfl ⟨(gI s 9 (ix a1)), rfl, h666⟩
theorem c23_in (a1 : Int32) (s : St) (Q : St → Prop) (h : inb 64 a1 ∧ ((((gI s 7 (ix a1)) &&& (32 : Int32)) = (0 : Int32)) → inb 64 a1 ∧ ((((gI s 7 (ix a1)) &&& (16 : Int32)) = (0 : Int32)) → Q s) ∧ (¬ (((gI s 7 (ix a1)) &&& (16 : Int32)) = (0 : Int32)) → inb 64 a1 ∧ Q (sI s 9 (ix a1) (0 : Int32)))) ∧ (¬ (((gI s 7 (ix a1)) &&& (32 : Int32)) = (0 : Int32)) → inb 64 a1 ∧ inb 64 a1 ∧ Q (sI (sI s 8 (ix a1) (0 : Int32)) 9 (ix a1) (0 : Int32)))) : calV PP 23 11 [.ref 0, .int a1] s Q := by
  refine cal_of (me := cm23) (ls := [some (.ref 0), some (.int a1)]) rfl (Nat.le_of_ble_eq_true rfl) rfl ?_
  refine wpc_sl (n := 3) (c' := 11) (pc' := 5) (ls' := [some (.ref 0), some (.int a1)]) (st' := [.int a1, .ref 7]) (s' := s) rfl ?_
  refine wpc_ldaI (a := 6) (N := 64) (v := (gI s 7 (ix a1))) rfl rfl (by decide) h.1 rfl ?_
  have h667 := h.2
  refine wpc_sl (n := 2) (c' := 11) (pc' := 9) (ls' := [some (.ref 0), some (.int a1)]) (st' := [.int ((gI s 7 (ix a1)) &&& (32 : Int32))]) (s' := s) rfl ?_
  refine wpc_if (a := 29) (b := 12) rfl (by decide) rfl rfl (wpc_br (p := ((gI s 7 (ix a1)) &&& (32 : Int32)) = (0 : Int32)) ⟨fun hc668 => ?_, fun hc668 => ?_⟩)
  · have h669 := h667.1 hc668
    refine wpc_sl (n := 3) (c' := 11) (pc' := 34) (ls' := [some (.ref 0), some (.int a1)]) (st' := [.int a1, .ref 7]) (s' := s) rfl ?_
    refine wpc_ldaI (a := 6) (N := 64) (v := (gI s 7 (ix a1))) rfl rfl (by decide) h669.1 rfl ?_
    have h671 := h669.2
    refine wpc_sl (n := 2) (c' := 11) (pc' := 38) (ls' := [some (.ref 0), some (.int a1)]) (st' := [.int ((gI s 7 (ix a1)) &&& (16 : Int32))]) (s' := s) rfl ?_
    refine wpc_if (a := 48) (b := 41) rfl (by decide) rfl rfl (wpc_br (p := ((gI s 7 (ix a1)) &&& (16 : Int32)) = (0 : Int32)) ⟨fun hc672 => ?_, fun hc672 => ?_⟩)
    · have h673 := h671.1 hc672
      exact wpc_ret rfl rfl (fun q => absurd q (by decide)) rfl ⟨rfl, h673⟩
    · have h674 := h671.2 hc672
      refine wpc_sl (n := 4) (c' := 11) (pc' := 47) (ls' := [some (.ref 0), some (.int a1)]) (st' := [.int (0 : Int32), .int a1, .ref 9]) (s' := s) rfl ?_
      refine wpc_staI (a := 8) (N := 64) (s' := (sI s 9 (ix a1) (0 : Int32))) rfl rfl (by decide) h674.1 rfl ?_
      have h675 := h674.2
      exact wpc_ret rfl rfl (fun q => absurd q (by decide)) rfl ⟨rfl, h675⟩
  · have h670 := h667.2 hc668
    refine wpc_sl (n := 4) (c' := 11) (pc' := 18) (ls' := [some (.ref 0), some (.int a1)]) (st' := [.int (0 : Int32), .int a1, .ref 8]) (s' := s) rfl ?_
    refine wpc_staZ (a := 7) (N := 64) (s' := (sI s 8 (ix a1) (0 : Int32))) rfl rfl (by decide) h670.1 rfl ?_
    have h676 := h670.2
    refine wpc_sl (n := 4) (c' := 11) (pc' := 25) (ls' := [some (.ref 0), some (.int a1)]) (st' := [.int (0 : Int32), .int a1, .ref 9]) (s' := (sI s 8 (ix a1) (0 : Int32))) rfl ?_
    refine wpc_staI (a := 8) (N := 64) (s' := (sI (sI s 8 (ix a1) (0 : Int32)) 9 (ix a1) (0 : Int32))) rfl rfl (by decide) h676.1 rfl ?_
    have h677 := h676.2
    refine wpc_sl (n := 1) (c' := 11) (pc' := 48) (ls' := [some (.ref 0), some (.int a1)]) (st' := []) (s' := (sI (sI s 8 (ix a1) (0 : Int32)) 9 (ix a1) (0 : Int32))) rfl ?_
    exact wpc_ret rfl rfl (fun q => absurd q (by decide)) rfl ⟨rfl, h677⟩
theorem c22_in (a1 : Int32) (a2 : Int32) (s : St) (Q : Int32 → St → Prop) (h : calI PP 6 11 [.ref 0, .int a1] s (fun v615 s614 => ((v615 = (0 : Int32)) → Q (-6 : Int32) s614) ∧ (¬ (v615 = (0 : Int32)) → ((a2 < (1 : Int32)) → Q (-6 : Int32) s614) ∧ (¬ (a2 < (1 : Int32)) → ∀ m623, m623 = (if (16 : Int32) < a2 then (16 : Int32) else a2) → (wpcI PP 22 cm22 11 43 [some (.ref 0), some (.int a1), none, some (.int m623), some (.int (0 : Int32)), some (.int ((2 : Int32) * (gI s614 0 17))), some (.int (0 : Int32)), none, none] [] s614 Q))))) : calI PP 22 11 [.ref 0, .int a1, .int a2] s Q := by
  refine cal_of (me := cm22) (ls := [some (.ref 0), some (.int a1), some (.int a2), none, none, none, none, none, none]) rfl (Nat.le_of_ble_eq_true rfl) rfl ?_
  refine wpc_sl (n := 2) (c' := 11) (pc' := 2) (ls' := [some (.ref 0), some (.int a1), some (.int a2), none, none, none, none, none, none]) (st' := [.int a1, .ref 0]) (s' := s) rfl ?_
  refine wpc_callI (m' := 6) (me' := cm6) (as := [.int a1]) (r := []) rfl rfl rfl rfl rfl ⟨by decide, (by first | decide | exact Nat.le_of_ble_eq_true rfl), (by first | decide | exact Nat.le_of_ble_eq_true rfl), rfl⟩ (calI.mono h fun v615 s614 h616 => ?_)
  refine wpc_if (a := 13) (b := 8) rfl (by decide) rfl rfl (wpc_br (p := v615 = (0 : Int32)) ⟨fun hc617 => ?_, fun hc617 => ?_⟩)
  · have h618 := h616.1 hc617
    refine wpc_sl (n := 1) (c' := 11) (pc' := 15) (ls' := [some (.ref 0), some (.int a1), some (.int a2), none, none, none, none, none, none]) (st' := [.int (-6 : Int32)]) (s' := s614) rfl ?_
    exact wpc_ret rfl rfl (fun q => absurd q (by decide)) rfl ⟨(-6 : Int32), rfl, h618⟩
  · have h619 := h616.2 hc617
    refine wpc_sl (n := 2) (c' := 11) (pc' := 10) (ls' := [some (.ref 0), some (.int a1), some (.int a2), none, none, none, none, none, none]) (st' := [.int (1 : Int32), .int a2]) (s' := s614) rfl ?_
    refine wpc_icmp (a := 16) (b := 13) rfl (by decide) rfl rfl (wpc_br (p := a2 < (1 : Int32)) ⟨fun hc620 => ?_, fun hc620 => ?_⟩)
    · have h621 := h619.1 hc620
      refine wpc_sl (n := 1) (c' := 11) (pc' := 15) (ls' := [some (.ref 0), some (.int a1), some (.int a2), none, none, none, none, none, none]) (st' := [.int (-6 : Int32)]) (s' := s614) rfl ?_
      exact wpc_ret rfl rfl (fun q => absurd q (by decide)) rfl ⟨(-6 : Int32), rfl, h621⟩
    · have h622 := h619.2 hc620
      refine wpc_sl (n := 2) (c' := 11) (pc' := 19) (ls' := [some (.ref 0), some (.int a1), some (.int a2), none, none, none, none, none, none]) (st' := [.int (16 : Int32), .int a2]) (s' := s614) rfl ?_
      have hm624 : ∀ m623, m623 = (if (16 : Int32) < a2 then (16 : Int32) else a2) → wpcI PP 22 cm22 11 28 [some (.ref 0), some (.int a1), some (.int a2), none, none, none, none, none, none] [.int m623] s614 Q := by
        intro m623 em623
        have h625 := h622 m623 em623
        refine wpc_sl (n := 10) (c' := 11) (pc' := 43) (ls' := [some (.ref 0), some (.int a1), some (.int a2), some (.int m623), some (.int (0 : Int32)), some (.int ((2 : Int32) * (gI s614 0 17))), some (.int (0 : Int32)), none, none]) (st' := []) (s' := s614) rfl ?_
        exact wpc_lle (ls := [some (.ref 0), some (.int a1), none, some (.int m623), some (.int (0 : Int32)), some (.int ((2 : Int32) * (gI s614 0 17))), some (.int (0 : Int32)), none, none]) ⟨rfl, rfl, rfl, rfl, rfl, rfl, trivial⟩ h625
      refine wpc_icmp (a := 27) (b := 22) rfl (by decide) rfl rfl (wpc_br (p := (16 : Int32) < a2) ⟨fun hc626 => ?_, fun hc626 => ?_⟩)
      · refine wpc_sl (n := 2) (c' := 11) (pc' := 28) (ls' := [some (.ref 0), some (.int a1), some (.int a2), none, none, none, none, none, none]) (st' := [.int (16 : Int32)]) (s' := s614) rfl ?_
        first | exact hm624 _ (by simp only [if_pos hc626]) | exact wpc_lle (by repeat (first | exact trivial | refine ⟨rfl, ?_⟩)) (hm624 _ (by simp only [if_pos hc626]))
      · refine wpc_sl (n := 1) (c' := 11) (pc' := 28) (ls' := [some (.ref 0), some (.int a1), some (.int a2), none, none, none, none, none, none]) (st' := [.int a2]) (s' := s614) rfl ?_
        first | exact hm624 _ (by simp only [if_neg hc626]) | exact wpc_lle (by repeat (first | exact trivial | refine ⟨rfl, ?_⟩)) (hm624 _ (by simp only [if_neg hc626]))
theorem c22_43 (x1 : Int32) (x3 : Int32) (x4 : Int32) (x5 : Int32) (x6 : Int32) (s : St) (Q : Int32 → St → Prop) (h : ((x6 < x5) → ((x4 < x3) → calI PP 8 11 [.ref 0, .int x1, .int x6] s (fun v634 s633 => inb 64 v634 ∧ (((gI s633 6 (ix v634)) = (0 : Int32)) → wpcI PP 22 cm22 11 123 [some (.ref 0), some (.int x1), none, some (.int x3), some (.int x4), some (.int x5), some (.int x6), none, none] [] s633 Q) ∧ (¬ ((gI s633 6 (ix v634)) = (0 : Int32)) → calI PP 9 11 [.ref 0, .int v634, .int x6] s633 (fun v641 s640 => ((v641 = (0 : Int32)) → wpcI PP 22 cm22 11 123 [some (.ref 0), some (.int x1), none, some (.int x3), some (.int x4), some (.int x5), some (.int x6), none, none] [] s640 Q) ∧ (¬ (v641 = (0 : Int32)) → inb 16 x4 ∧ inb 16 x4 ∧ calV PP 23 11 [.ref 0, .int v634] (sI (sI s640 10 (ix x4) x6) 11 (ix x4) v641) (fun s648 => wpcI PP 22 cm22 11 123 [some (.ref 0), some (.int x1), none, some (.int x3), some (.int (x4 + (1 : Int32))), some (.int x5), some (.int x6), none, none] [] s648 Q)))))) ∧ (¬ (x4 < x3) → wpcI PP 22 cm22 11 129 [some (.ref 0), none, none, none, some (.int x4), none, none, none, none] [] s Q)) ∧ (¬ (x6 < x5) → wpcI PP 22 cm22 11 129 [some (.ref 0), none, none, none, some (.int x4), none, none, none, none] [] s Q)) : wpcI PP 22 cm22 11 43 [some (.ref 0), some (.int x1), none, some (.int x3), some (.int x4), some (.int x5), some (.int x6), none, none] [] s Q := by
  refine wpc_sl (n := 2) (c' := 11) (pc' := 47) (ls' := [some (.ref 0), some (.int x1), none, some (.int x3), some (.int x4), some (.int x5), some (.int x6), none, none]) (st' := [.int x5, .int x6]) (s' := s) rfl ?_
  refine wpc_icmp (a := 129) (b := 50) rfl (by decide) rfl rfl (wpc_br (p := x6 < x5) ⟨fun hc627 => ?_, fun hc627 => ?_⟩)
  · have h628 := h.1 hc627
    refine wpc_sl (n := 2) (c' := 11) (pc' := 53) (ls' := [some (.ref 0), some (.int x1), none, some (.int x3), some (.int x4), some (.int x5), some (.int x6), none, none]) (st' := [.int x3, .int x4]) (s' := s) rfl ?_
    refine wpc_icmp (a := 129) (b := 56) rfl (by decide) rfl rfl (wpc_br (p := x4 < x3) ⟨fun hc630 => ?_, fun hc630 => ?_⟩)
    · have h631 := h628.1 hc630
      refine wpc_sl (n := 3) (c' := 11) (pc' := 60) (ls' := [some (.ref 0), some (.int x1), none, some (.int x3), some (.int x4), some (.int x5), some (.int x6), none, none]) (st' := [.int x6, .int x1, .ref 0]) (s' := s) rfl ?_
      refine wpc_callI (m' := 8) (me' := cm8) (as := [.int x1, .int x6]) (r := []) rfl rfl rfl rfl rfl ⟨by decide, (by first | decide | exact Nat.le_of_ble_eq_true rfl), (by first | decide | exact Nat.le_of_ble_eq_true rfl), rfl⟩ (calI.mono h631 fun v634 s633 h635 => ?_)
      refine wpc_sl (n := 4) (c' := 11) (pc' := 71) (ls' := [some (.ref 0), some (.int x1), none, some (.int x3), some (.int x4), some (.int x5), some (.int x6), some (.int v634), none]) (st' := [.int v634, .ref 6]) (s' := s633) rfl ?_
      refine wpc_ldaZ (a := 5) (N := 64) (v := (gI s633 6 (ix v634))) rfl rfl (by decide) h635.1 rfl ?_
      have h636 := h635.2
      refine wpc_if (a := 78) (b := 75) rfl (by decide) rfl rfl (wpc_br (p := (gI s633 6 (ix v634)) = (0 : Int32)) ⟨fun hc637 => ?_, fun hc637 => ?_⟩)
      · have h638 := h636.1 hc637
        refine wpc_sl (n := 1) (c' := 11) (pc' := 123) (ls' := [some (.ref 0), some (.int x1), none, some (.int x3), some (.int x4), some (.int x5), some (.int x6), some (.int v634), none]) (st' := []) (s' := s633) rfl ?_
        exact wpc_lle (ls := [some (.ref 0), some (.int x1), none, some (.int x3), some (.int x4), some (.int x5), some (.int x6), none, none]) ⟨rfl, rfl, rfl, rfl, rfl, rfl, trivial⟩ h638
      · have h639 := h636.2 hc637
        refine wpc_sl (n := 3) (c' := 11) (pc' := 83) (ls' := [some (.ref 0), some (.int x1), none, some (.int x3), some (.int x4), some (.int x5), some (.int x6), some (.int v634), none]) (st' := [.int x6, .int v634, .ref 0]) (s' := s633) rfl ?_
        refine wpc_callI (m' := 9) (me' := cm9) (as := [.int v634, .int x6]) (r := []) rfl rfl rfl rfl rfl ⟨by decide, (by first | decide | exact Nat.le_of_ble_eq_true rfl), (by first | decide | exact Nat.le_of_ble_eq_true rfl), rfl⟩ (calI.mono h639 fun v641 s640 h642 => ?_)
        refine wpc_sl (n := 2) (c' := 11) (pc' := 90) (ls' := [some (.ref 0), some (.int x1), none, some (.int x3), some (.int x4), some (.int x5), some (.int x6), some (.int v634), some (.int v641)]) (st' := [.int v641]) (s' := s640) rfl ?_
        refine wpc_if (a := 96) (b := 93) rfl (by decide) rfl rfl (wpc_br (p := v641 = (0 : Int32)) ⟨fun hc643 => ?_, fun hc643 => ?_⟩)
        · have h644 := h642.1 hc643
          refine wpc_sl (n := 1) (c' := 11) (pc' := 123) (ls' := [some (.ref 0), some (.int x1), none, some (.int x3), some (.int x4), some (.int x5), some (.int x6), some (.int v634), some (.int v641)]) (st' := []) (s' := s640) rfl ?_
          exact wpc_lle (ls := [some (.ref 0), some (.int x1), none, some (.int x3), some (.int x4), some (.int x5), some (.int x6), none, none]) ⟨rfl, rfl, rfl, rfl, rfl, rfl, trivial⟩ h644
        · have h645 := h642.2 hc643
          refine wpc_sl (n := 4) (c' := 11) (pc' := 104) (ls' := [some (.ref 0), some (.int x1), none, some (.int x3), some (.int x4), some (.int x5), some (.int x6), some (.int v634), some (.int v641)]) (st' := [.int x6, .int x4, .ref 10]) (s' := s640) rfl ?_
          refine wpc_staI (a := 9) (N := 16) (s' := (sI s640 10 (ix x4) x6)) rfl rfl (by decide) h645.1 rfl ?_
          have h646 := h645.2
          refine wpc_sl (n := 4) (c' := 11) (pc' := 113) (ls' := [some (.ref 0), some (.int x1), none, some (.int x3), some (.int x4), some (.int x5), some (.int x6), some (.int v634), some (.int v641)]) (st' := [.int v641, .int x4, .ref 11]) (s' := (sI s640 10 (ix x4) x6)) rfl ?_
          refine wpc_staI (a := 10) (N := 16) (s' := (sI (sI s640 10 (ix x4) x6) 11 (ix x4) v641)) rfl rfl (by decide) h646.1 rfl ?_
          have h647 := h646.2
          refine wpc_sl (n := 3) (c' := 11) (pc' := 120) (ls' := [some (.ref 0), some (.int x1), none, some (.int x3), some (.int (x4 + (1 : Int32))), some (.int x5), some (.int x6), some (.int v634), some (.int v641)]) (st' := [.int v634, .ref 0]) (s' := (sI (sI s640 10 (ix x4) x6) 11 (ix x4) v641)) rfl ?_
          refine wpc_callV (m' := 23) (me' := cm23) (as := [.int v634]) (r := []) rfl rfl rfl rfl rfl ⟨by decide, (by first | decide | exact Nat.le_of_ble_eq_true rfl), (by first | decide | exact Nat.le_of_ble_eq_true rfl), rfl⟩ (calV.mono h647 fun s648 h650 => ?_)
          exact wpc_lle (ls := [some (.ref 0), some (.int x1), none, some (.int x3), some (.int (x4 + (1 : Int32))), some (.int x5), some (.int x6), none, none]) ⟨rfl, rfl, rfl, rfl, rfl, rfl, trivial⟩ h650
    · have h632 := h628.2 hc630
      exact wpc_lle (ls := [some (.ref 0), none, none, none, some (.int x4), none, none, none, none]) ⟨rfl, rfl, trivial⟩ h632
  · have h629 := h.2 hc627
    exact wpc_lle (ls := [some (.ref 0), none, none, none, some (.int x4), none, none, none, none]) ⟨rfl, rfl, trivial⟩ h629
theorem c22_123 (x1 : Int32) (x3 : Int32) (x4 : Int32) (x5 : Int32) (x6 : Int32) (s : St) (Q : Int32 → St → Prop) (h : wpcI PP 22 cm22 11 43 [some (.ref 0), some (.int x1), none, some (.int x3), some (.int x4), some (.int x5), some (.int (x6 + (1 : Int32))), none, none] [] s Q) : wpcI PP 22 cm22 11 123 [some (.ref 0), some (.int x1), none, some (.int x3), some (.int x4), some (.int x5), some (.int x6), none, none] [] s Q := by
  refine wpc_sl (n := 2) (c' := 11) (pc' := 43) (ls' := [some (.ref 0), some (.int x1), none, some (.int x3), some (.int x4), some (.int x5), some (.int (x6 + (1 : Int32))), none, none]) (st' := []) (s' := s) rfl ?_
  exact h
theorem c22_129 (x4 : Int32) (s : St) (Q : Int32 → St → Prop) (h : Q x4 (sI s 0 31 x4)) : wpcI PP 22 cm22 11 129 [some (.ref 0), none, none, none, some (.int x4), none, none, none, none] [] s Q := by
  refine wpc_sl (n := 4) (c' := 11) (pc' := 137) (ls' := [some (.ref 0), none, none, none, some (.int x4), none, none, none, none]) (st' := [.int x4]) (s' := (sI s 0 31 x4)) rfl ?_
  exact wpc_ret rfl rfl (fun q => absurd q (by decide)) rfl ⟨x4, rfl, h⟩
theorem l7W1_in (N : Nat) (sg : Nat → Int32) (a0 : Int64) (a1 : Int32) (a2 : Int32) (s : St) (Q : Int64 → Wd → Prop) (h : Q ((a0 &&& (((15 : Int64) <<< ((((4 : Int32) * a1)).toInt64 &&& 63)) ^^^ (-1 : Int64))) ||| ((Int32.toInt64 (a2 &&& (15 : Int32))) <<< ((((4 : Int32) * a1)).toInt64 &&& 63))) (W1 s)) : lalL PP QQ (some (N, sg)) 7 [.long a0, .int a1, .int a2] (W1 s) Q := by
  refine lal_of (me := lm7) (ls := [some (.long a0), none, some (.int a1), some (.int a2)]) rfl (Nat.le_of_ble_eq_true rfl) rfl ?_
  refine wpl_sl (n := 5) (pc' := 7) (ls' := [some (.long a0), none, some (.int a1), some (.int a2)]) (st' := [.int ((4 : Int32) * a1), .long (15 : Int64), .long a0]) rfl ?_
  refine wpl_sl (n := 5) (pc' := 14) (ls' := [some (.long a0), none, some (.int a1), some (.int a2)]) (st' := [.int a2, .long (a0 &&& (((15 : Int64) <<< ((((4 : Int32) * a1)).toInt64 &&& 63)) ^^^ (-1 : Int64)))]) rfl ?_
  refine wpl_sl (n := 5) (pc' := 20) (ls' := [some (.long a0), none, some (.int a1), some (.int a2)]) (st' := [.int a1, .int (4 : Int32), .long (Int32.toInt64 (a2 &&& (15 : Int32))), .long (a0 &&& (((15 : Int64) <<< ((((4 : Int32) * a1)).toInt64 &&& 63)) ^^^ (-1 : Int64)))]) rfl ?_
  refine wpl_sl (n := 3) (pc' := 23) (ls' := [some (.long a0), none, some (.int a1), some (.int a2)]) (st' := [.long ((a0 &&& (((15 : Int64) <<< ((((4 : Int32) * a1)).toInt64 &&& 63)) ^^^ (-1 : Int64))) ||| ((Int32.toInt64 (a2 &&& (15 : Int32))) <<< ((((4 : Int32) * a1)).toInt64 &&& 63)))]) rfl ?_
  exact wpl_ret rfl rfl rfl ⟨((a0 &&& (((15 : Int64) <<< ((((4 : Int32) * a1)).toInt64 &&& 63)) ^^^ (-1 : Int64))) ||| ((Int32.toInt64 (a2 &&& (15 : Int32))) <<< ((((4 : Int32) * a1)).toInt64 &&& 63))), rfl, h⟩
theorem c24_in (a1 : Int32) (s : St) (Q : Int32 → St → Prop) (h : ((a1 < (0 : Int32)) → Q (-1 : Int32) s) ∧ (¬ (a1 < (0 : Int32)) → ((a1 < (gI s 0 31)) → inb 16 a1 ∧ Q (gI s 10 (ix a1)) s) ∧ (¬ (a1 < (gI s 0 31)) → Q (-1 : Int32) s))) : calI PP 24 11 [.ref 0, .int a1] s Q := by
  refine cal_of (me := cm24) (ls := [some (.ref 0), some (.int a1)]) rfl (Nat.le_of_ble_eq_true rfl) rfl ?_
  refine wpc_sl (n := 1) (c' := 11) (pc' := 1) (ls' := [some (.ref 0), some (.int a1)]) (st' := [.int a1]) (s' := s) rfl ?_
  refine wpc_if (a := 12) (b := 4) rfl (by decide) rfl rfl (wpc_br (p := a1 < (0 : Int32)) ⟨fun hc678 => ?_, fun hc678 => ?_⟩)
  · have h679 := h.1 hc678
    refine wpc_sl (n := 1) (c' := 11) (pc' := 13) (ls' := [some (.ref 0), some (.int a1)]) (st' := [.int (-1 : Int32)]) (s' := s) rfl ?_
    exact wpc_ret rfl rfl (fun q => absurd q (by decide)) rfl ⟨(-1 : Int32), rfl, h679⟩
  · have h680 := h.2 hc678
    refine wpc_sl (n := 3) (c' := 11) (pc' := 9) (ls' := [some (.ref 0), some (.int a1)]) (st' := [.int (gI s 0 31), .int a1]) (s' := s) rfl ?_
    refine wpc_icmp (a := 14) (b := 12) rfl (by decide) rfl rfl (wpc_br (p := a1 < (gI s 0 31)) ⟨fun hc681 => ?_, fun hc681 => ?_⟩)
    · have h682 := h680.1 hc681
      refine wpc_sl (n := 3) (c' := 11) (pc' := 19) (ls' := [some (.ref 0), some (.int a1)]) (st' := [.int a1, .ref 10]) (s' := s) rfl ?_
      refine wpc_ldaI (a := 9) (N := 16) (v := (gI s 10 (ix a1))) rfl rfl (by decide) h682.1 rfl ?_
      have h684 := h682.2
      exact wpc_ret rfl rfl (fun q => absurd q (by decide)) rfl ⟨(gI s 10 (ix a1)), rfl, h684⟩
    · have h683 := h680.2 hc681
      refine wpc_sl (n := 1) (c' := 11) (pc' := 13) (ls' := [some (.ref 0), some (.int a1)]) (st' := [.int (-1 : Int32)]) (s' := s) rfl ?_
      exact wpc_ret rfl rfl (fun q => absurd q (by decide)) rfl ⟨(-1 : Int32), rfl, h683⟩
theorem c25_in (a1 : Int32) (s : St) (Q : Int32 → St → Prop) (h : ((a1 < (0 : Int32)) → Q (0 : Int32) s) ∧ (¬ (a1 < (0 : Int32)) → ((a1 < (gI s 0 31)) → inb 16 a1 ∧ Q (gI s 11 (ix a1)) s) ∧ (¬ (a1 < (gI s 0 31)) → Q (0 : Int32) s))) : calI PP 25 11 [.ref 0, .int a1] s Q := by
  refine cal_of (me := cm25) (ls := [some (.ref 0), some (.int a1)]) rfl (Nat.le_of_ble_eq_true rfl) rfl ?_
  refine wpc_sl (n := 1) (c' := 11) (pc' := 1) (ls' := [some (.ref 0), some (.int a1)]) (st' := [.int a1]) (s' := s) rfl ?_
  refine wpc_if (a := 12) (b := 4) rfl (by decide) rfl rfl (wpc_br (p := a1 < (0 : Int32)) ⟨fun hc685 => ?_, fun hc685 => ?_⟩)
  · have h686 := h.1 hc685
    refine wpc_sl (n := 1) (c' := 11) (pc' := 13) (ls' := [some (.ref 0), some (.int a1)]) (st' := [.int (0 : Int32)]) (s' := s) rfl ?_
    exact wpc_ret rfl rfl (fun q => absurd q (by decide)) rfl ⟨(0 : Int32), rfl, h686⟩
  · have h687 := h.2 hc685
    refine wpc_sl (n := 3) (c' := 11) (pc' := 9) (ls' := [some (.ref 0), some (.int a1)]) (st' := [.int (gI s 0 31), .int a1]) (s' := s) rfl ?_
    refine wpc_icmp (a := 14) (b := 12) rfl (by decide) rfl rfl (wpc_br (p := a1 < (gI s 0 31)) ⟨fun hc688 => ?_, fun hc688 => ?_⟩)
    · have h689 := h687.1 hc688
      refine wpc_sl (n := 3) (c' := 11) (pc' := 19) (ls' := [some (.ref 0), some (.int a1)]) (st' := [.int a1, .ref 11]) (s' := s) rfl ?_
      refine wpc_ldaI (a := 10) (N := 16) (v := (gI s 11 (ix a1))) rfl rfl (by decide) h689.1 rfl ?_
      have h691 := h689.2
      exact wpc_ret rfl rfl (fun q => absurd q (by decide)) rfl ⟨(gI s 11 (ix a1)), rfl, h691⟩
    · have h690 := h687.2 hc688
      refine wpc_sl (n := 1) (c' := 11) (pc' := 13) (ls' := [some (.ref 0), some (.int a1)]) (st' := [.int (0 : Int32)]) (s' := s) rfl ?_
      exact wpc_ret rfl rfl (fun q => absurd q (by decide)) rfl ⟨(0 : Int32), rfl, h690⟩
theorem c29_in (a1 : Int32) (a2 : Int32) (s : St) (Q : Int32 → St → Prop) (h : calI PP 14 11 [.ref 0, .int a1, .int a2] s (fun v693 s692 => ((v693 < (0 : Int32)) → Q (-1 : Int32) s692) ∧ (¬ (v693 < (0 : Int32)) → calI PP 9 11 [.ref 0, .int v693, .int a2] s692 (fun v699 s698 => Q v699 s698)))) : calI PP 29 11 [.ref 0, .int a1, .int a2] s Q := by
  refine cal_of (me := cm29) (ls := [some (.ref 0), some (.int a1), some (.int a2), none]) rfl (Nat.le_of_ble_eq_true rfl) rfl ?_
  refine wpc_sl (n := 3) (c' := 11) (pc' := 3) (ls' := [some (.ref 0), some (.int a1), some (.int a2), none]) (st' := [.int a2, .int a1, .ref 0]) (s' := s) rfl ?_
  refine wpc_callI (m' := 14) (me' := cm14) (as := [.int a1, .int a2]) (r := []) rfl rfl rfl rfl rfl ⟨by decide, (by first | decide | exact Nat.le_of_ble_eq_true rfl), (by first | decide | exact Nat.le_of_ble_eq_true rfl), rfl⟩ (calI.mono h fun v693 s692 h694 => ?_)
  refine wpc_sl (n := 2) (c' := 11) (pc' := 8) (ls' := [some (.ref 0), some (.int a1), some (.int a2), some (.int v693)]) (st' := [.int v693]) (s' := s692) rfl ?_
  refine wpc_if (a := 13) (b := 11) rfl (by decide) rfl rfl (wpc_br (p := v693 < (0 : Int32)) ⟨fun hc695 => ?_, fun hc695 => ?_⟩)
  · have h696 := h694.1 hc695
    refine wpc_sl (n := 1) (c' := 11) (pc' := 12) (ls' := [some (.ref 0), some (.int a1), some (.int a2), some (.int v693)]) (st' := [.int (-1 : Int32)]) (s' := s692) rfl ?_
    exact wpc_ret rfl rfl (fun q => absurd q (by decide)) rfl ⟨(-1 : Int32), rfl, h696⟩
  · have h697 := h694.2 hc695
    refine wpc_sl (n := 3) (c' := 11) (pc' := 16) (ls' := [some (.ref 0), some (.int a1), some (.int a2), some (.int v693)]) (st' := [.int a2, .int v693, .ref 0]) (s' := s692) rfl ?_
    refine wpc_callI (m' := 9) (me' := cm9) (as := [.int v693, .int a2]) (r := []) rfl rfl rfl rfl rfl ⟨by decide, (by first | decide | exact Nat.le_of_ble_eq_true rfl), (by first | decide | exact Nat.le_of_ble_eq_true rfl), rfl⟩ (calI.mono h697 fun v699 s698 h700 => ?_)
    exact wpc_ret rfl rfl (fun q => absurd q (by decide)) rfl ⟨v699, rfl, h700⟩
theorem c30_in (a1 : Int32) (s : St) (Q : Int32 → St → Prop) (h : calI PP 6 11 [.ref 0, .int a1] s (fun v702 s701 => ((v702 = (0 : Int32)) → Q (-1 : Int32) s701) ∧ (¬ (v702 = (0 : Int32)) → wpcI PP 30 cm30 11 22 [some (.ref 0), some (.int a1), some (.int (0 : Int32)), some (.int ((2 : Int32) * (gI s701 0 17))), some (.int (0 : Int32)), none] [] s701 Q))) : calI PP 30 11 [.ref 0, .int a1] s Q := by
  refine cal_of (me := cm30) (ls := [some (.ref 0), some (.int a1), none, none, none, none]) rfl (Nat.le_of_ble_eq_true rfl) rfl ?_
  refine wpc_sl (n := 2) (c' := 11) (pc' := 2) (ls' := [some (.ref 0), some (.int a1), none, none, none, none]) (st' := [.int a1, .ref 0]) (s' := s) rfl ?_
  refine wpc_callI (m' := 6) (me' := cm6) (as := [.int a1]) (r := []) rfl rfl rfl rfl rfl ⟨by decide, (by first | decide | exact Nat.le_of_ble_eq_true rfl), (by first | decide | exact Nat.le_of_ble_eq_true rfl), rfl⟩ (calI.mono h fun v702 s701 h703 => ?_)
  refine wpc_if (a := 10) (b := 8) rfl (by decide) rfl rfl (wpc_br (p := v702 = (0 : Int32)) ⟨fun hc704 => ?_, fun hc704 => ?_⟩)
  · have h705 := h703.1 hc704
    refine wpc_sl (n := 1) (c' := 11) (pc' := 9) (ls' := [some (.ref 0), some (.int a1), none, none, none, none]) (st' := [.int (-1 : Int32)]) (s' := s701) rfl ?_
    exact wpc_ret rfl rfl (fun q => absurd q (by decide)) rfl ⟨(-1 : Int32), rfl, h705⟩
  · have h706 := h703.2 hc704
    refine wpc_sl (n := 9) (c' := 11) (pc' := 22) (ls' := [some (.ref 0), some (.int a1), some (.int (0 : Int32)), some (.int ((2 : Int32) * (gI s701 0 17))), some (.int (0 : Int32)), none]) (st' := []) (s' := s701) rfl ?_
    exact h706
theorem c30_22 (x1 : Int32) (x2 : Int32) (x3 : Int32) (x4 : Int32) (s : St) (Q : Int32 → St → Prop) (h : ((x4 < x3) → calI PP 8 11 [.ref 0, .int x1, .int x4] s (fun v711 s710 => inb 64 v711 ∧ (((gI s710 6 (ix v711)) = (0 : Int32)) → wpcI PP 30 cm30 11 61 [some (.ref 0), some (.int x1), some (.int x2), some (.int x3), some (.int x4), none] [] s710 Q) ∧ (¬ ((gI s710 6 (ix v711)) = (0 : Int32)) → calI PP 9 11 [.ref 0, .int v711, .int x4] s710 (fun v718 s717 => ∀ m720, m720 = (if v718 = (0 : Int32) then x2 else (x2 + (1 : Int32))) → (wpcI PP 30 cm30 11 61 [some (.ref 0), some (.int x1), some (.int m720), some (.int x3), some (.int x4), none] [] s717 Q))))) ∧ (¬ (x4 < x3) → Q x2 s)) : wpcI PP 30 cm30 11 22 [some (.ref 0), some (.int x1), some (.int x2), some (.int x3), some (.int x4), none] [] s Q := by
  refine wpc_sl (n := 2) (c' := 11) (pc' := 25) (ls' := [some (.ref 0), some (.int x1), some (.int x2), some (.int x3), some (.int x4), none]) (st' := [.int x3, .int x4]) (s' := s) rfl ?_
  refine wpc_icmp (a := 67) (b := 28) rfl (by decide) rfl rfl (wpc_br (p := x4 < x3) ⟨fun hc707 => ?_, fun hc707 => ?_⟩)
  · have h708 := h.1 hc707
    refine wpc_sl (n := 3) (c' := 11) (pc' := 32) (ls' := [some (.ref 0), some (.int x1), some (.int x2), some (.int x3), some (.int x4), none]) (st' := [.int x4, .int x1, .ref 0]) (s' := s) rfl ?_
    refine wpc_callI (m' := 8) (me' := cm8) (as := [.int x1, .int x4]) (r := []) rfl rfl rfl rfl rfl ⟨by decide, (by first | decide | exact Nat.le_of_ble_eq_true rfl), (by first | decide | exact Nat.le_of_ble_eq_true rfl), rfl⟩ (calI.mono h708 fun v711 s710 h712 => ?_)
    refine wpc_sl (n := 4) (c' := 11) (pc' := 43) (ls' := [some (.ref 0), some (.int x1), some (.int x2), some (.int x3), some (.int x4), some (.int v711)]) (st' := [.int v711, .ref 6]) (s' := s710) rfl ?_
    refine wpc_ldaZ (a := 5) (N := 64) (v := (gI s710 6 (ix v711))) rfl rfl (by decide) h712.1 rfl ?_
    have h713 := h712.2
    refine wpc_if (a := 61) (b := 47) rfl (by decide) rfl rfl (wpc_br (p := (gI s710 6 (ix v711)) = (0 : Int32)) ⟨fun hc714 => ?_, fun hc714 => ?_⟩)
    · have h715 := h713.1 hc714
      exact wpc_lle (ls := [some (.ref 0), some (.int x1), some (.int x2), some (.int x3), some (.int x4), none]) ⟨rfl, rfl, rfl, rfl, rfl, trivial⟩ h715
    · have h716 := h713.2 hc714
      refine wpc_sl (n := 3) (c' := 11) (pc' := 52) (ls' := [some (.ref 0), some (.int x1), some (.int x2), some (.int x3), some (.int x4), some (.int v711)]) (st' := [.int x4, .int v711, .ref 0]) (s' := s710) rfl ?_
      refine wpc_callI (m' := 9) (me' := cm9) (as := [.int v711, .int x4]) (r := []) rfl rfl rfl rfl rfl ⟨by decide, (by first | decide | exact Nat.le_of_ble_eq_true rfl), (by first | decide | exact Nat.le_of_ble_eq_true rfl), rfl⟩ (calI.mono h716 fun v718 s717 h719 => ?_)
      have hm721 : ∀ m720, m720 = (if v718 = (0 : Int32) then x2 else (x2 + (1 : Int32))) → wpcI PP 30 cm30 11 61 [some (.ref 0), some (.int x1), some (.int m720), some (.int x3), some (.int x4), some (.int v711)] [] s717 Q := by
        intro m720 em720
        have h722 := h719 m720 em720
        exact wpc_lle (ls := [some (.ref 0), some (.int x1), some (.int m720), some (.int x3), some (.int x4), none]) ⟨rfl, rfl, rfl, rfl, rfl, trivial⟩ h722
      refine wpc_if (a := 61) (b := 58) rfl (by decide) rfl rfl (wpc_br (p := v718 = (0 : Int32)) ⟨fun hc723 => ?_, fun hc723 => ?_⟩)
      · first | exact hm721 _ (by simp only [if_pos hc723]) | exact wpc_lle (by repeat (first | exact trivial | refine ⟨rfl, ?_⟩)) (hm721 _ (by simp only [if_pos hc723]))
      · refine wpc_sl (n := 1) (c' := 11) (pc' := 61) (ls' := [some (.ref 0), some (.int x1), some (.int (x2 + (1 : Int32))), some (.int x3), some (.int x4), some (.int v711)]) (st' := []) (s' := s717) rfl ?_
        first | exact hm721 _ (by simp only [if_neg hc723]) | exact wpc_lle (by repeat (first | exact trivial | refine ⟨rfl, ?_⟩)) (hm721 _ (by simp only [if_neg hc723]))
  · have h709 := h.2 hc707
    refine wpc_sl (n := 1) (c' := 11) (pc' := 68) (ls' := [some (.ref 0), some (.int x1), some (.int x2), some (.int x3), some (.int x4), none]) (st' := [.int x2]) (s' := s) rfl ?_
    exact wpc_ret rfl rfl (fun q => absurd q (by decide)) rfl ⟨x2, rfl, h709⟩
theorem c30_61 (x1 : Int32) (x2 : Int32) (x3 : Int32) (x4 : Int32) (s : St) (Q : Int32 → St → Prop) (h : wpcI PP 30 cm30 11 22 [some (.ref 0), some (.int x1), some (.int x2), some (.int x3), some (.int (x4 + (1 : Int32))), none] [] s Q) : wpcI PP 30 cm30 11 61 [some (.ref 0), some (.int x1), some (.int x2), some (.int x3), some (.int x4), none] [] s Q := by
  refine wpc_sl (n := 2) (c' := 11) (pc' := 22) (ls' := [some (.ref 0), some (.int x1), some (.int x2), some (.int x3), some (.int (x4 + (1 : Int32))), none]) (st' := []) (s' := s) rfl ?_
  exact h
theorem l0_in (N : Nat) (sg : Nat → Int32)   (Q : Int32 → Wd → Prop) (h : lalI PP QQ (some (N, sg)) 2 [.ref 0, .int (0 : Int32)] W0p (fun v2 w1 => w1 = W0p ∧ (lalI PP QQ (some (N, sg)) 3 [.int v2, .int (4 : Int32)] W0p (fun v5 w4 => w4 = W0p ∧ (calV PP 0 0 [.ref 0, .int (2 : Int32), .int ((1 : Int32) + v5), .int (2 : Int32)] s0 (fun s7 => wplI PP QQ (some (N, sg)) 0 lm0 26 [some (.ref 0), some (.ref 1), some (.long (0 : Int64)), none, some (.int (1 : Int32)), none, none, none, none, none, none, none, none, none, none, none, none, none, none, none, none, none] [] (W1 s7) Q)))))) : lalI PP QQ (some (N, sg)) 0 [.ref 0] W0 Q := by
  refine lal_of (me := lm0) (ls := [some (.ref 0), none, none, none, none, none, none, none, none, none, none, none, none, none, none, none, none, none, none, none, none, none]) rfl (Nat.le_of_ble_eq_true rfl) rfl ?_
  refine wpl_new0 rfl rfl (by decide) (by decide) ?_
  refine wpl_sl (n := 5) (pc' := 8) (ls' := [some (.ref 0), none, none, none, none, none, none, none, none, none, none, none, none, none, none, none, none, none, none, none, none, none]) (st' := [.int (0 : Int32), .ref 0, .int (1 : Int32), .int (2 : Int32), .ref 1, .ref 1]) rfl ?_
  refine wpl_stat (m' := 2) (me' := lm2) (as := [.ref 0, .int (0 : Int32)]) (r := [.int (1 : Int32), .int (2 : Int32), .ref 1, .ref 1]) rfl rfl rfl rfl rfl ⟨(by first | decide | exact Nat.le_of_ble_eq_true rfl), (by first | decide | exact Nat.le_of_ble_eq_true rfl), (by first | decide | exact Nat.le_of_ble_eq_true rfl), (by first | decide | exact Nat.le_of_ble_eq_true rfl), rfl⟩ (lal_I (lalI.mono h fun v2 w1 hh => ?_))
  obtain ⟨rfl, h3⟩ := hh
  refine wpl_sl (n := 1) (pc' := 12) (ls' := [some (.ref 0), none, none, none, none, none, none, none, none, none, none, none, none, none, none, none, none, none, none, none, none, none]) (st' := [.int (4 : Int32), .int v2, .int (1 : Int32), .int (2 : Int32), .ref 1, .ref 1]) rfl ?_
  refine wpl_stat (m' := 3) (me' := lm3) (as := [.int v2, .int (4 : Int32)]) (r := [.int (1 : Int32), .int (2 : Int32), .ref 1, .ref 1]) rfl rfl rfl rfl rfl ⟨(by first | decide | exact Nat.le_of_ble_eq_true rfl), (by first | decide | exact Nat.le_of_ble_eq_true rfl), (by first | decide | exact Nat.le_of_ble_eq_true rfl), (by first | decide | exact Nat.le_of_ble_eq_true rfl), rfl⟩ (lal_I (lalI.mono h3 fun v5 w4 hh => ?_))
  obtain ⟨rfl, h6⟩ := hh
  refine wpl_sl (n := 2) (pc' := 17) (ls' := [some (.ref 0), none, none, none, none, none, none, none, none, none, none, none, none, none, none, none, none, none, none, none, none, none]) (st' := [.int (2 : Int32), .int ((1 : Int32) + v5), .int (2 : Int32), .ref 1, .ref 1]) rfl ?_
  refine wpl_ctor0 (me' := cm0) (as := [.int (2 : Int32), .int ((1 : Int32) + v5), .int (2 : Int32)]) (r := [.ref 1]) rfl rfl rfl rfl rfl ⟨by decide, by decide, rfl, by decide, by decide⟩ (calV.mono h6 fun s7 h8 => ?_)
  refine wpl_sl (n := 5) (pc' := 26) (ls' := [some (.ref 0), some (.ref 1), some (.long (0 : Int64)), none, some (.int (1 : Int32)), none, none, none, none, none, none, none, none, none, none, none, none, none, none, none, none, none]) (st' := []) rfl ?_
  exact h8
theorem l0_26 (N : Nat) (sg : Nat → Int32) (x2 : Int64) (x4 : Int32)  (Q : Int32 → Wd → Prop) (h : ((x4 < (Int32.ofNat N)) → lalI PP QQ (some (N, sg)) 2 [.ref 0, .int x4] (W1 s) (fun v13 w12 => ∃ s15, w12 = W1 s15 ∧ (lalI PP QQ (some (N, sg)) 3 [.int v13, .int (11 : Int32)] (W1 s15) (fun v17 w16 => ∃ s19, w16 = W1 s19 ∧ (lalI PP QQ (some (N, sg)) 2 [.ref 0, .int (x4 + (1 : Int32))] (W1 s19) (fun v21 w20 => ∃ s23, w20 = W1 s23 ∧ (lalI PP QQ (some (N, sg)) 2 [.ref 0, .int (x4 + (2 : Int32))] (W1 s23) (fun v25 w24 => ∃ s27, w24 = W1 s27 ∧ (lalI PP QQ (some (N, sg)) 5 [.ref 1] (W1 s27) (fun v29 w28 => ∃ s31, w28 = W1 s31 ∧ (((v17 = (0 : Int32)) → calI PP 15 11 [.ref 0] s31 (fun v36 s35 => wplI PP QQ (some (N, sg)) 0 lm0 401 [some (.ref 0), some (.ref 1), some (.long x2), none, some (.int x4), some (.int v17), none, none, some (.int (v21 &&& (1 : Int32))), some (.int ((XT.ushr v21 (1 : Int32)) &&& (3 : Int32))), some (.int v29), some (.int (0 : Int32)), some (.long (0 : Int64)), none, some (.int (0 : Int32)), some (.int (0 : Int32)), none, none, none, none, none, none] [] (W1 s35) Q)) ∧ (¬ (v17 = (0 : Int32)) → (((2 : Int32) < v17) → (((4 : Int32) < v17) → ((v17 = (5 : Int32)) → calI PP 18 11 [.ref 0, .int (v21 &&& (3 : Int32))] s31 (fun v48 s47 => wplI PP QQ (some (N, sg)) 0 lm0 401 [some (.ref 0), some (.ref 1), some (.long x2), none, some (.int x4), some (.int v17), none, none, some (.int (v21 &&& (1 : Int32))), some (.int ((XT.ushr v21 (1 : Int32)) &&& (3 : Int32))), some (.int v29), some (.int (0 : Int32)), some (.long (0 : Int64)), none, some (.int (0 : Int32)), some (.int (0 : Int32)), none, none, none, none, none, none] [] (W1 s47) Q)) ∧ (¬ (v17 = (5 : Int32)) → ((v17 = (6 : Int32)) → wplI PP QQ (some (N, sg)) 0 lm0 217 [some (.ref 0), some (.ref 1), some (.long x2), none, some (.int x4), some (.int v17), none, some (.int v25), some (.int (v21 &&& (1 : Int32))), some (.int ((XT.ushr v21 (1 : Int32)) &&& (3 : Int32))), some (.int v29), none, some (.long (0 : Int64)), none, some (.int (0 : Int32)), some (.int (0 : Int32)), none, none, none, none, none, none] [] (W1 s31) Q) ∧ (¬ (v17 = (6 : Int32)) → ((v17 = (7 : Int32)) → wplI PP QQ (some (N, sg)) 0 lm0 217 [some (.ref 0), some (.ref 1), some (.long x2), none, some (.int x4), some (.int v17), none, some (.int v25), some (.int (v21 &&& (1 : Int32))), some (.int ((XT.ushr v21 (1 : Int32)) &&& (3 : Int32))), some (.int v29), none, some (.long (0 : Int64)), none, some (.int (0 : Int32)), some (.int (0 : Int32)), none, none, none, none, none, none] [] (W1 s31) Q) ∧ (¬ (v17 = (7 : Int32)) → ((v17 = (8 : Int32)) → calI PP 21 11 [.ref 0, .int (v21 &&& (1 : Int32)), .int ((XT.ushr v21 (1 : Int32)) &&& (3 : Int32))] s31 (fun v60 s59 => wplI PP QQ (some (N, sg)) 0 lm0 401 [some (.ref 0), some (.ref 1), some (.long x2), none, some (.int x4), some (.int v17), none, none, some (.int (v21 &&& (1 : Int32))), some (.int ((XT.ushr v21 (1 : Int32)) &&& (3 : Int32))), some (.int v29), some (.int (0 : Int32)), some (.long (0 : Int64)), none, some (.int (0 : Int32)), some (.int (0 : Int32)), none, none, none, none, none, none] [] (W1 s59) Q)) ∧ (¬ (v17 = (8 : Int32)) → lalI PP QQ (some (N, sg)) 3 [.int v25, .int (6 : Int32)] (W1 s31) (fun v63 w62 => ∃ s65, w62 = W1 s65 ∧ (wplI PP QQ (some (N, sg)) 0 lm0 315 [some (.ref 0), some (.ref 1), some (.long x2), none, some (.int x4), some (.int v17), none, none, some (.int (v21 &&& (1 : Int32))), some (.int ((XT.ushr v21 (1 : Int32)) &&& (3 : Int32))), some (.int v29), none, some (.long (0 : Int64)), none, some (.int (0 : Int32)), some (.int (v63 - (1 : Int32))), some (.int (0 : Int32)), none, none, none, none, none] [] (W1 s65) Q))))))) ∧ (¬ ((4 : Int32) < v17) → ∀ m66, m66 = (if (v21 &&& (8 : Int32)) = (0 : Int32) then ((2 : Int32) * (v21 &&& (1 : Int32))) else (v21 &&& (3 : Int32))) → (calI PP 17 11 [.ref 0, .int m66] s31 (fun v70 s69 => wplI PP QQ (some (N, sg)) 0 lm0 401 [some (.ref 0), some (.ref 1), some (.long x2), none, some (.int x4), some (.int v17), none, none, some (.int (v21 &&& (1 : Int32))), some (.int ((XT.ushr v21 (1 : Int32)) &&& (3 : Int32))), some (.int v29), some (.int (0 : Int32)), some (.long (0 : Int64)), none, some (.int (0 : Int32)), some (.int (0 : Int32)), none, none, none, none, none, none] [] (W1 s69) Q)))) ∧ (¬ ((2 : Int32) < v17) → ∀ m73, m73 = (if (v21 &&& (8 : Int32)) = (0 : Int32) then (((2 : Int32) * (v21 &&& (1 : Int32))) + (1 : Int32)) else (v21 &&& (3 : Int32))) → (calI PP 16 11 [.ref 0, .int m73, .int v25] s31 (fun v77 s76 => wplI PP QQ (some (N, sg)) 0 lm0 401 [some (.ref 0), some (.ref 1), some (.long x2), none, some (.int x4), some (.int v17), none, none, some (.int (v21 &&& (1 : Int32))), some (.int ((XT.ushr v21 (1 : Int32)) &&& (3 : Int32))), some (.int v29), some (.int (0 : Int32)), some (.long (0 : Int64)), none, some (.int (0 : Int32)), some (.int (0 : Int32)), none, none, none, none, none, none] [] (W1 s76) Q))))))))))))))) ∧ (¬ (x4 < (Int32.ofNat N)) → Q (1 : Int32) (W1 s))) : wplI PP QQ (some (N, sg)) 0 lm0 26 [some (.ref 0), some (.ref 1), some (.long x2), none, some (.int x4), none, none, none, none, none, none, none, none, none, none, none, none, none, none, none, none, none] [] (W1 s) Q := by
  refine wpl_sl (n := 2) (pc' := 29) (ls' := [some (.ref 0), some (.ref 1), some (.long x2), none, some (.int x4), none, none, none, none, none, none, none, none, none, none, none, none, none, none, none, none, none]) (st' := [.ref 0, .int x4]) rfl ?_
  refine wpl_len rfl ?_
  refine wpl_icmp (a := 732) (b := 33) rfl (by decide) rfl rfl (wpl_br (p := x4 < (Int32.ofNat N)) ⟨fun hc9 => ?_, fun hc9 => ?_⟩)
  · have h10 := h.1 hc9
    refine wpl_sl (n := 2) (pc' := 36) (ls' := [some (.ref 0), some (.ref 1), some (.long x2), none, some (.int x4), none, none, none, none, none, none, none, none, none, none, none, none, none, none, none, none, none]) (st' := [.int x4, .ref 0]) rfl ?_
    refine wpl_stat (m' := 2) (me' := lm2) (as := [.ref 0, .int x4]) (r := []) rfl rfl rfl rfl rfl ⟨(by first | decide | exact Nat.le_of_ble_eq_true rfl), (by first | decide | exact Nat.le_of_ble_eq_true rfl), (by first | decide | exact Nat.le_of_ble_eq_true rfl), (by first | decide | exact Nat.le_of_ble_eq_true rfl), rfl⟩ (lal_I (lalI.mono h10 fun v13 w12 hh => ?_))
    obtain ⟨s15, rfl, h14⟩ := hh
    refine wpl_sl (n := 1) (pc' := 41) (ls' := [some (.ref 0), some (.ref 1), some (.long x2), none, some (.int x4), none, none, none, none, none, none, none, none, none, none, none, none, none, none, none, none, none]) (st' := [.int (11 : Int32), .int v13]) rfl ?_
    refine wpl_stat (m' := 3) (me' := lm3) (as := [.int v13, .int (11 : Int32)]) (r := []) rfl rfl rfl rfl rfl ⟨(by first | decide | exact Nat.le_of_ble_eq_true rfl), (by first | decide | exact Nat.le_of_ble_eq_true rfl), (by first | decide | exact Nat.le_of_ble_eq_true rfl), (by first | decide | exact Nat.le_of_ble_eq_true rfl), rfl⟩ (lal_I (lalI.mono h14 fun v17 w16 hh => ?_))
    obtain ⟨s19, rfl, h18⟩ := hh
    refine wpl_sl (n := 5) (pc' := 51) (ls' := [some (.ref 0), some (.ref 1), some (.long x2), none, some (.int x4), some (.int v17), none, none, none, none, none, none, none, none, none, none, none, none, none, none, none, none]) (st' := [.int (x4 + (1 : Int32)), .ref 0]) rfl ?_
    refine wpl_stat (m' := 2) (me' := lm2) (as := [.ref 0, .int (x4 + (1 : Int32))]) (r := []) rfl rfl rfl rfl rfl ⟨(by first | decide | exact Nat.le_of_ble_eq_true rfl), (by first | decide | exact Nat.le_of_ble_eq_true rfl), (by first | decide | exact Nat.le_of_ble_eq_true rfl), (by first | decide | exact Nat.le_of_ble_eq_true rfl), rfl⟩ (lal_I (lalI.mono h18 fun v21 w20 hh => ?_))
    obtain ⟨s23, rfl, h22⟩ := hh
    refine wpl_sl (n := 5) (pc' := 61) (ls' := [some (.ref 0), some (.ref 1), some (.long x2), none, some (.int x4), some (.int v17), some (.int v21), none, none, none, none, none, none, none, none, none, none, none, none, none, none, none]) (st' := [.int (x4 + (2 : Int32)), .ref 0]) rfl ?_
    refine wpl_stat (m' := 2) (me' := lm2) (as := [.ref 0, .int (x4 + (2 : Int32))]) (r := []) rfl rfl rfl rfl rfl ⟨(by first | decide | exact Nat.le_of_ble_eq_true rfl), (by first | decide | exact Nat.le_of_ble_eq_true rfl), (by first | decide | exact Nat.le_of_ble_eq_true rfl), (by first | decide | exact Nat.le_of_ble_eq_true rfl), rfl⟩ (lal_I (lalI.mono h22 fun v25 w24 hh => ?_))
    obtain ⟨s27, rfl, h26⟩ := hh
    refine wpl_sl (n := 5) (pc' := 72) (ls' := [some (.ref 0), some (.ref 1), some (.long x2), none, some (.int x4), some (.int v17), some (.int v21), some (.int v25), some (.int (v21 &&& (1 : Int32))), none, none, none, none, none, none, none, none, none, none, none, none, none]) (st' := []) rfl ?_
    refine wpl_sl (n := 5) (pc' := 78) (ls' := [some (.ref 0), some (.ref 1), some (.long x2), none, some (.int x4), some (.int v17), some (.int v21), some (.int v25), some (.int (v21 &&& (1 : Int32))), none, none, none, none, none, none, none, none, none, none, none, none, none]) (st' := [.int ((XT.ushr v21 (1 : Int32)) &&& (3 : Int32))]) rfl ?_
    refine wpl_sl (n := 2) (pc' := 81) (ls' := [some (.ref 0), some (.ref 1), some (.long x2), none, some (.int x4), some (.int v17), some (.int v21), some (.int v25), some (.int (v21 &&& (1 : Int32))), some (.int ((XT.ushr v21 (1 : Int32)) &&& (3 : Int32))), none, none, none, none, none, none, none, none, none, none, none, none]) (st' := [.ref 1]) rfl ?_
    refine wpl_stat (m' := 5) (me' := lm5) (as := [.ref 1]) (r := []) rfl rfl rfl rfl rfl ⟨(by first | decide | exact Nat.le_of_ble_eq_true rfl), (by first | decide | exact Nat.le_of_ble_eq_true rfl), (by first | decide | exact Nat.le_of_ble_eq_true rfl), (by first | decide | exact Nat.le_of_ble_eq_true rfl), rfl⟩ (lal_I (lalI.mono h26 fun v29 w28 hh => ?_))
    obtain ⟨s31, rfl, h30⟩ := hh
    refine wpl_sl (n := 5) (pc' := 92) (ls' := [some (.ref 0), some (.ref 1), some (.long x2), none, some (.int x4), some (.int v17), some (.int v21), some (.int v25), some (.int (v21 &&& (1 : Int32))), some (.int ((XT.ushr v21 (1 : Int32)) &&& (3 : Int32))), some (.int v29), some (.int (0 : Int32)), some (.long (0 : Int64)), none, none, none, none, none, none, none, none, none]) (st' := []) rfl ?_
    refine wpl_sl (n := 5) (pc' := 100) (ls' := [some (.ref 0), some (.ref 1), some (.long x2), none, some (.int x4), some (.int v17), some (.int v21), some (.int v25), some (.int (v21 &&& (1 : Int32))), some (.int ((XT.ushr v21 (1 : Int32)) &&& (3 : Int32))), some (.int v29), some (.int (0 : Int32)), some (.long (0 : Int64)), none, some (.int (0 : Int32)), some (.int (0 : Int32)), none, none, none, none, none, none]) (st' := [.int v17]) rfl ?_
    refine wpl_if (a := 111) (b := 103) rfl (by decide) rfl rfl (wpl_br (p := v17 = (0 : Int32)) ⟨fun hc32 => ?_, fun hc32 => ?_⟩)
    · have h33 := h30.1 hc32
      refine wpl_sl (n := 1) (pc' := 104) (ls' := [some (.ref 0), some (.ref 1), some (.long x2), none, some (.int x4), some (.int v17), some (.int v21), some (.int v25), some (.int (v21 &&& (1 : Int32))), some (.int ((XT.ushr v21 (1 : Int32)) &&& (3 : Int32))), some (.int v29), some (.int (0 : Int32)), some (.long (0 : Int64)), none, some (.int (0 : Int32)), some (.int (0 : Int32)), none, none, none, none, none, none]) (st' := [.ref 1]) rfl ?_
      refine wpl_v1 (m' := 15) (me' := cm15) (as := []) (r := []) rfl rfl rfl rfl rfl ⟨by decide, (by first | decide | exact Nat.le_of_ble_eq_true rfl), (by first | decide | exact Nat.le_of_ble_eq_true rfl), rfl⟩ (cal_I (calI.mono h33 fun v36 s35 h37 => ?_))
      refine wpl_sl (n := 2) (pc' := 401) (ls' := [some (.ref 0), some (.ref 1), some (.long x2), none, some (.int x4), some (.int v17), some (.int v21), some (.int v25), some (.int (v21 &&& (1 : Int32))), some (.int ((XT.ushr v21 (1 : Int32)) &&& (3 : Int32))), some (.int v29), some (.int (0 : Int32)), some (.long (0 : Int64)), none, some (.int (0 : Int32)), some (.int (0 : Int32)), none, none, none, none, none, none]) (st' := []) rfl ?_
      exact wpl_lle (ls := [some (.ref 0), some (.ref 1), some (.long x2), none, some (.int x4), some (.int v17), none, none, some (.int (v21 &&& (1 : Int32))), some (.int ((XT.ushr v21 (1 : Int32)) &&& (3 : Int32))), some (.int v29), some (.int (0 : Int32)), some (.long (0 : Int64)), none, some (.int (0 : Int32)), some (.int (0 : Int32)), none, none, none, none, none, none]) ⟨rfl, rfl, rfl, rfl, rfl, rfl, rfl, rfl, rfl, rfl, rfl, rfl, trivial⟩ h37
    · have h34 := h30.2 hc32
      refine wpl_sl (n := 2) (pc' := 114) (ls' := [some (.ref 0), some (.ref 1), some (.long x2), none, some (.int x4), some (.int v17), some (.int v21), some (.int v25), some (.int (v21 &&& (1 : Int32))), some (.int ((XT.ushr v21 (1 : Int32)) &&& (3 : Int32))), some (.int v29), some (.int (0 : Int32)), some (.long (0 : Int64)), none, some (.int (0 : Int32)), some (.int (0 : Int32)), none, none, none, none, none, none]) (st' := [.int (2 : Int32), .int v17]) rfl ?_
      refine wpl_icmp (a := 150) (b := 117) rfl (by decide) rfl rfl (wpl_br (p := (2 : Int32) < v17) ⟨fun hc38 => ?_, fun hc38 => ?_⟩)
      · have h39 := h34.1 hc38
        refine wpl_sl (n := 2) (pc' := 153) (ls' := [some (.ref 0), some (.ref 1), some (.long x2), none, some (.int x4), some (.int v17), some (.int v21), some (.int v25), some (.int (v21 &&& (1 : Int32))), some (.int ((XT.ushr v21 (1 : Int32)) &&& (3 : Int32))), some (.int v29), some (.int (0 : Int32)), some (.long (0 : Int64)), none, some (.int (0 : Int32)), some (.int (0 : Int32)), none, none, none, none, none, none]) (st' := [.int (4 : Int32), .int v17]) rfl ?_
        refine wpl_icmp (a := 185) (b := 156) rfl (by decide) rfl rfl (wpl_br (p := (4 : Int32) < v17) ⟨fun hc41 => ?_, fun hc41 => ?_⟩)
        · have h42 := h39.1 hc41
          refine wpl_sl (n := 2) (pc' := 188) (ls' := [some (.ref 0), some (.ref 1), some (.long x2), none, some (.int x4), some (.int v17), some (.int v21), some (.int v25), some (.int (v21 &&& (1 : Int32))), some (.int ((XT.ushr v21 (1 : Int32)) &&& (3 : Int32))), some (.int v29), some (.int (0 : Int32)), some (.long (0 : Int64)), none, some (.int (0 : Int32)), some (.int (0 : Int32)), none, none, none, none, none, none]) (st' := [.int (5 : Int32), .int v17]) rfl ?_
          refine wpl_icmp (a := 203) (b := 191) rfl (by decide) rfl rfl (wpl_br (p := v17 = (5 : Int32)) ⟨fun hc44 => ?_, fun hc44 => ?_⟩)
          · have h45 := h42.1 hc44
            refine wpl_sl (n := 4) (pc' := 196) (ls' := [some (.ref 0), some (.ref 1), some (.long x2), none, some (.int x4), some (.int v17), some (.int v21), some (.int v25), some (.int (v21 &&& (1 : Int32))), some (.int ((XT.ushr v21 (1 : Int32)) &&& (3 : Int32))), some (.int v29), some (.int (0 : Int32)), some (.long (0 : Int64)), none, some (.int (0 : Int32)), some (.int (0 : Int32)), none, none, none, none, none, none]) (st' := [.int (v21 &&& (3 : Int32)), .ref 1]) rfl ?_
            refine wpl_v1 (m' := 18) (me' := cm18) (as := [.int (v21 &&& (3 : Int32))]) (r := []) rfl rfl rfl rfl rfl ⟨by decide, (by first | decide | exact Nat.le_of_ble_eq_true rfl), (by first | decide | exact Nat.le_of_ble_eq_true rfl), rfl⟩ (cal_I (calI.mono h45 fun v48 s47 h49 => ?_))
            refine wpl_sl (n := 2) (pc' := 401) (ls' := [some (.ref 0), some (.ref 1), some (.long x2), none, some (.int x4), some (.int v17), some (.int v21), some (.int v25), some (.int (v21 &&& (1 : Int32))), some (.int ((XT.ushr v21 (1 : Int32)) &&& (3 : Int32))), some (.int v29), some (.int (0 : Int32)), some (.long (0 : Int64)), none, some (.int (0 : Int32)), some (.int (0 : Int32)), none, none, none, none, none, none]) (st' := []) rfl ?_
            exact wpl_lle (ls := [some (.ref 0), some (.ref 1), some (.long x2), none, some (.int x4), some (.int v17), none, none, some (.int (v21 &&& (1 : Int32))), some (.int ((XT.ushr v21 (1 : Int32)) &&& (3 : Int32))), some (.int v29), some (.int (0 : Int32)), some (.long (0 : Int64)), none, some (.int (0 : Int32)), some (.int (0 : Int32)), none, none, none, none, none, none]) ⟨rfl, rfl, rfl, rfl, rfl, rfl, rfl, rfl, rfl, rfl, rfl, rfl, trivial⟩ h49
          · have h46 := h42.2 hc44
            refine wpl_sl (n := 2) (pc' := 207) (ls' := [some (.ref 0), some (.ref 1), some (.long x2), none, some (.int x4), some (.int v17), some (.int v21), some (.int v25), some (.int (v21 &&& (1 : Int32))), some (.int ((XT.ushr v21 (1 : Int32)) &&& (3 : Int32))), some (.int v29), some (.int (0 : Int32)), some (.long (0 : Int64)), none, some (.int (0 : Int32)), some (.int (0 : Int32)), none, none, none, none, none, none]) (st' := [.int (6 : Int32), .int v17]) rfl ?_
            refine wpl_icmp (a := 217) (b := 210) rfl (by decide) rfl rfl (wpl_br (p := v17 = (6 : Int32)) ⟨fun hc50 => ?_, fun hc50 => ?_⟩)
            · have h51 := h46.1 hc50
              exact wpl_lle (ls := [some (.ref 0), some (.ref 1), some (.long x2), none, some (.int x4), some (.int v17), none, some (.int v25), some (.int (v21 &&& (1 : Int32))), some (.int ((XT.ushr v21 (1 : Int32)) &&& (3 : Int32))), some (.int v29), none, some (.long (0 : Int64)), none, some (.int (0 : Int32)), some (.int (0 : Int32)), none, none, none, none, none, none]) ⟨rfl, rfl, rfl, rfl, rfl, rfl, rfl, rfl, rfl, rfl, rfl, rfl, trivial⟩ h51
            · have h52 := h46.2 hc50
              refine wpl_sl (n := 2) (pc' := 214) (ls' := [some (.ref 0), some (.ref 1), some (.long x2), none, some (.int x4), some (.int v17), some (.int v21), some (.int v25), some (.int (v21 &&& (1 : Int32))), some (.int ((XT.ushr v21 (1 : Int32)) &&& (3 : Int32))), some (.int v29), some (.int (0 : Int32)), some (.long (0 : Int64)), none, some (.int (0 : Int32)), some (.int (0 : Int32)), none, none, none, none, none, none]) (st' := [.int (7 : Int32), .int v17]) rfl ?_
              refine wpl_icmp (a := 282) (b := 217) rfl (by decide) rfl rfl (wpl_br (p := v17 = (7 : Int32)) ⟨fun hc53 => ?_, fun hc53 => ?_⟩)
              · have h54 := h52.1 hc53
                exact wpl_lle (ls := [some (.ref 0), some (.ref 1), some (.long x2), none, some (.int x4), some (.int v17), none, some (.int v25), some (.int (v21 &&& (1 : Int32))), some (.int ((XT.ushr v21 (1 : Int32)) &&& (3 : Int32))), some (.int v29), none, some (.long (0 : Int64)), none, some (.int (0 : Int32)), some (.int (0 : Int32)), none, none, none, none, none, none]) ⟨rfl, rfl, rfl, rfl, rfl, rfl, rfl, rfl, rfl, rfl, rfl, rfl, trivial⟩ h54
              · have h55 := h52.2 hc53
                refine wpl_sl (n := 2) (pc' := 286) (ls' := [some (.ref 0), some (.ref 1), some (.long x2), none, some (.int x4), some (.int v17), some (.int v21), some (.int v25), some (.int (v21 &&& (1 : Int32))), some (.int ((XT.ushr v21 (1 : Int32)) &&& (3 : Int32))), some (.int v29), some (.int (0 : Int32)), some (.long (0 : Int64)), none, some (.int (0 : Int32)), some (.int (0 : Int32)), none, none, none, none, none, none]) (st' := [.int (8 : Int32), .int v17]) rfl ?_
                refine wpl_icmp (a := 301) (b := 289) rfl (by decide) rfl rfl (wpl_br (p := v17 = (8 : Int32)) ⟨fun hc56 => ?_, fun hc56 => ?_⟩)
                · have h57 := h55.1 hc56
                  refine wpl_sl (n := 3) (pc' := 294) (ls' := [some (.ref 0), some (.ref 1), some (.long x2), none, some (.int x4), some (.int v17), some (.int v21), some (.int v25), some (.int (v21 &&& (1 : Int32))), some (.int ((XT.ushr v21 (1 : Int32)) &&& (3 : Int32))), some (.int v29), some (.int (0 : Int32)), some (.long (0 : Int64)), none, some (.int (0 : Int32)), some (.int (0 : Int32)), none, none, none, none, none, none]) (st' := [.int ((XT.ushr v21 (1 : Int32)) &&& (3 : Int32)), .int (v21 &&& (1 : Int32)), .ref 1]) rfl ?_
                  refine wpl_v1 (m' := 21) (me' := cm21) (as := [.int (v21 &&& (1 : Int32)), .int ((XT.ushr v21 (1 : Int32)) &&& (3 : Int32))]) (r := []) rfl rfl rfl rfl rfl ⟨by decide, (by first | decide | exact Nat.le_of_ble_eq_true rfl), (by first | decide | exact Nat.le_of_ble_eq_true rfl), rfl⟩ (cal_I (calI.mono h57 fun v60 s59 h61 => ?_))
                  refine wpl_sl (n := 2) (pc' := 401) (ls' := [some (.ref 0), some (.ref 1), some (.long x2), none, some (.int x4), some (.int v17), some (.int v21), some (.int v25), some (.int (v21 &&& (1 : Int32))), some (.int ((XT.ushr v21 (1 : Int32)) &&& (3 : Int32))), some (.int v29), some (.int (0 : Int32)), some (.long (0 : Int64)), none, some (.int (0 : Int32)), some (.int (0 : Int32)), none, none, none, none, none, none]) (st' := []) rfl ?_
                  exact wpl_lle (ls := [some (.ref 0), some (.ref 1), some (.long x2), none, some (.int x4), some (.int v17), none, none, some (.int (v21 &&& (1 : Int32))), some (.int ((XT.ushr v21 (1 : Int32)) &&& (3 : Int32))), some (.int v29), some (.int (0 : Int32)), some (.long (0 : Int64)), none, some (.int (0 : Int32)), some (.int (0 : Int32)), none, none, none, none, none, none]) ⟨rfl, rfl, rfl, rfl, rfl, rfl, rfl, rfl, rfl, rfl, rfl, rfl, trivial⟩ h61
                · have h58 := h55.2 hc56
                  refine wpl_sl (n := 2) (pc' := 305) (ls' := [some (.ref 0), some (.ref 1), some (.long x2), none, some (.int x4), some (.int v17), some (.int v21), some (.int v25), some (.int (v21 &&& (1 : Int32))), some (.int ((XT.ushr v21 (1 : Int32)) &&& (3 : Int32))), some (.int v29), some (.int (0 : Int32)), some (.long (0 : Int64)), none, some (.int (0 : Int32)), some (.int (0 : Int32)), none, none, none, none, none, none]) (st' := [.int (6 : Int32), .int v25]) rfl ?_
                  refine wpl_stat (m' := 3) (me' := lm3) (as := [.int v25, .int (6 : Int32)]) (r := []) rfl rfl rfl rfl rfl ⟨(by first | decide | exact Nat.le_of_ble_eq_true rfl), (by first | decide | exact Nat.le_of_ble_eq_true rfl), (by first | decide | exact Nat.le_of_ble_eq_true rfl), (by first | decide | exact Nat.le_of_ble_eq_true rfl), rfl⟩ (lal_I (lalI.mono h58 fun v63 w62 hh => ?_))
                  obtain ⟨s65, rfl, h64⟩ := hh
                  refine wpl_sl (n := 5) (pc' := 315) (ls' := [some (.ref 0), some (.ref 1), some (.long x2), none, some (.int x4), some (.int v17), some (.int v21), some (.int v25), some (.int (v21 &&& (1 : Int32))), some (.int ((XT.ushr v21 (1 : Int32)) &&& (3 : Int32))), some (.int v29), some (.int (0 : Int32)), some (.long (0 : Int64)), none, some (.int (0 : Int32)), some (.int (v63 - (1 : Int32))), some (.int (0 : Int32)), none, none, none, none, none]) (st' := []) rfl ?_
                  exact wpl_lle (ls := [some (.ref 0), some (.ref 1), some (.long x2), none, some (.int x4), some (.int v17), none, none, some (.int (v21 &&& (1 : Int32))), some (.int ((XT.ushr v21 (1 : Int32)) &&& (3 : Int32))), some (.int v29), none, some (.long (0 : Int64)), none, some (.int (0 : Int32)), some (.int (v63 - (1 : Int32))), some (.int (0 : Int32)), none, none, none, none, none]) ⟨rfl, rfl, rfl, rfl, rfl, rfl, rfl, rfl, rfl, rfl, rfl, rfl, trivial⟩ h64
        · have h43 := h39.2 hc41
          refine wpl_sl (n := 4) (pc' := 162) (ls' := [some (.ref 0), some (.ref 1), some (.long x2), none, some (.int x4), some (.int v17), some (.int v21), some (.int v25), some (.int (v21 &&& (1 : Int32))), some (.int ((XT.ushr v21 (1 : Int32)) &&& (3 : Int32))), some (.int v29), some (.int (0 : Int32)), some (.long (0 : Int64)), none, some (.int (0 : Int32)), some (.int (0 : Int32)), none, none, none, none, none, none]) (st' := [.int (v21 &&& (8 : Int32)), .ref 1]) rfl ?_
          have hm67 : ∀ m66, m66 = (if (v21 &&& (8 : Int32)) = (0 : Int32) then ((2 : Int32) * (v21 &&& (1 : Int32))) else (v21 &&& (3 : Int32))) → wplI PP QQ (some (N, sg)) 0 lm0 178 [some (.ref 0), some (.ref 1), some (.long x2), none, some (.int x4), some (.int v17), some (.int v21), some (.int v25), some (.int (v21 &&& (1 : Int32))), some (.int ((XT.ushr v21 (1 : Int32)) &&& (3 : Int32))), some (.int v29), some (.int (0 : Int32)), some (.long (0 : Int64)), none, some (.int (0 : Int32)), some (.int (0 : Int32)), none, none, none, none, none, none] [.int m66, .ref 1] (W1 s31) Q := by
            intro m66 em66
            have h68 := h43 m66 em66
            refine wpl_v1 (m' := 17) (me' := cm17) (as := [.int m66]) (r := []) rfl rfl rfl rfl rfl ⟨by decide, (by first | decide | exact Nat.le_of_ble_eq_true rfl), (by first | decide | exact Nat.le_of_ble_eq_true rfl), rfl⟩ (cal_I (calI.mono h68 fun v70 s69 h71 => ?_))
            refine wpl_sl (n := 2) (pc' := 401) (ls' := [some (.ref 0), some (.ref 1), some (.long x2), none, some (.int x4), some (.int v17), some (.int v21), some (.int v25), some (.int (v21 &&& (1 : Int32))), some (.int ((XT.ushr v21 (1 : Int32)) &&& (3 : Int32))), some (.int v29), some (.int (0 : Int32)), some (.long (0 : Int64)), none, some (.int (0 : Int32)), some (.int (0 : Int32)), none, none, none, none, none, none]) (st' := []) rfl ?_
            exact wpl_lle (ls := [some (.ref 0), some (.ref 1), some (.long x2), none, some (.int x4), some (.int v17), none, none, some (.int (v21 &&& (1 : Int32))), some (.int ((XT.ushr v21 (1 : Int32)) &&& (3 : Int32))), some (.int v29), some (.int (0 : Int32)), some (.long (0 : Int64)), none, some (.int (0 : Int32)), some (.int (0 : Int32)), none, none, none, none, none, none]) ⟨rfl, rfl, rfl, rfl, rfl, rfl, rfl, rfl, rfl, rfl, rfl, rfl, trivial⟩ h71
          refine wpl_if (a := 172) (b := 165) rfl (by decide) rfl rfl (wpl_br (p := (v21 &&& (8 : Int32)) = (0 : Int32)) ⟨fun hc72 => ?_, fun hc72 => ?_⟩)
          · refine wpl_sl (n := 5) (pc' := 178) (ls' := [some (.ref 0), some (.ref 1), some (.long x2), none, some (.int x4), some (.int v17), some (.int v21), some (.int v25), some (.int (v21 &&& (1 : Int32))), some (.int ((XT.ushr v21 (1 : Int32)) &&& (3 : Int32))), some (.int v29), some (.int (0 : Int32)), some (.long (0 : Int64)), none, some (.int (0 : Int32)), some (.int (0 : Int32)), none, none, none, none, none, none]) (st' := [.int ((2 : Int32) * (v21 &&& (1 : Int32))), .ref 1]) rfl ?_
            first | exact hm67 _ (by simp only [if_pos hc72]) | exact wpl_lle (by repeat (first | exact trivial | refine ⟨rfl, ?_⟩)) (hm67 _ (by simp only [if_pos hc72]))
          · refine wpl_sl (n := 4) (pc' := 178) (ls' := [some (.ref 0), some (.ref 1), some (.long x2), none, some (.int x4), some (.int v17), some (.int v21), some (.int v25), some (.int (v21 &&& (1 : Int32))), some (.int ((XT.ushr v21 (1 : Int32)) &&& (3 : Int32))), some (.int v29), some (.int (0 : Int32)), some (.long (0 : Int64)), none, some (.int (0 : Int32)), some (.int (0 : Int32)), none, none, none, none, none, none]) (st' := [.int (v21 &&& (3 : Int32)), .ref 1]) rfl ?_
            first | exact hm67 _ (by simp only [if_neg hc72]) | exact wpl_lle (by repeat (first | exact trivial | refine ⟨rfl, ?_⟩)) (hm67 _ (by simp only [if_neg hc72]))
      · have h40 := h34.2 hc38
        refine wpl_sl (n := 4) (pc' := 123) (ls' := [some (.ref 0), some (.ref 1), some (.long x2), none, some (.int x4), some (.int v17), some (.int v21), some (.int v25), some (.int (v21 &&& (1 : Int32))), some (.int ((XT.ushr v21 (1 : Int32)) &&& (3 : Int32))), some (.int v29), some (.int (0 : Int32)), some (.long (0 : Int64)), none, some (.int (0 : Int32)), some (.int (0 : Int32)), none, none, none, none, none, none]) (st' := [.int (v21 &&& (8 : Int32)), .ref 1]) rfl ?_
        have hm74 : ∀ m73, m73 = (if (v21 &&& (8 : Int32)) = (0 : Int32) then (((2 : Int32) * (v21 &&& (1 : Int32))) + (1 : Int32)) else (v21 &&& (3 : Int32))) → wplI PP QQ (some (N, sg)) 0 lm0 141 [some (.ref 0), some (.ref 1), some (.long x2), none, some (.int x4), some (.int v17), some (.int v21), some (.int v25), some (.int (v21 &&& (1 : Int32))), some (.int ((XT.ushr v21 (1 : Int32)) &&& (3 : Int32))), some (.int v29), some (.int (0 : Int32)), some (.long (0 : Int64)), none, some (.int (0 : Int32)), some (.int (0 : Int32)), none, none, none, none, none, none] [.int m73, .ref 1] (W1 s31) Q := by
          intro m73 em73
          have h75 := h40 m73 em73
          refine wpl_sl (n := 1) (pc' := 143) (ls' := [some (.ref 0), some (.ref 1), some (.long x2), none, some (.int x4), some (.int v17), some (.int v21), some (.int v25), some (.int (v21 &&& (1 : Int32))), some (.int ((XT.ushr v21 (1 : Int32)) &&& (3 : Int32))), some (.int v29), some (.int (0 : Int32)), some (.long (0 : Int64)), none, some (.int (0 : Int32)), some (.int (0 : Int32)), none, none, none, none, none, none]) (st' := [.int v25, .int m73, .ref 1]) rfl ?_
          refine wpl_v1 (m' := 16) (me' := cm16) (as := [.int m73, .int v25]) (r := []) rfl rfl rfl rfl rfl ⟨by decide, (by first | decide | exact Nat.le_of_ble_eq_true rfl), (by first | decide | exact Nat.le_of_ble_eq_true rfl), rfl⟩ (cal_I (calI.mono h75 fun v77 s76 h78 => ?_))
          refine wpl_sl (n := 2) (pc' := 401) (ls' := [some (.ref 0), some (.ref 1), some (.long x2), none, some (.int x4), some (.int v17), some (.int v21), some (.int v25), some (.int (v21 &&& (1 : Int32))), some (.int ((XT.ushr v21 (1 : Int32)) &&& (3 : Int32))), some (.int v29), some (.int (0 : Int32)), some (.long (0 : Int64)), none, some (.int (0 : Int32)), some (.int (0 : Int32)), none, none, none, none, none, none]) (st' := []) rfl ?_
          exact wpl_lle (ls := [some (.ref 0), some (.ref 1), some (.long x2), none, some (.int x4), some (.int v17), none, none, some (.int (v21 &&& (1 : Int32))), some (.int ((XT.ushr v21 (1 : Int32)) &&& (3 : Int32))), some (.int v29), some (.int (0 : Int32)), some (.long (0 : Int64)), none, some (.int (0 : Int32)), some (.int (0 : Int32)), none, none, none, none, none, none]) ⟨rfl, rfl, rfl, rfl, rfl, rfl, rfl, rfl, rfl, rfl, rfl, rfl, trivial⟩ h78
        refine wpl_if (a := 133) (b := 126) rfl (by decide) rfl rfl (wpl_br (p := (v21 &&& (8 : Int32)) = (0 : Int32)) ⟨fun hc79 => ?_, fun hc79 => ?_⟩)
        · refine wpl_sl (n := 7) (pc' := 141) (ls' := [some (.ref 0), some (.ref 1), some (.long x2), none, some (.int x4), some (.int v17), some (.int v21), some (.int v25), some (.int (v21 &&& (1 : Int32))), some (.int ((XT.ushr v21 (1 : Int32)) &&& (3 : Int32))), some (.int v29), some (.int (0 : Int32)), some (.long (0 : Int64)), none, some (.int (0 : Int32)), some (.int (0 : Int32)), none, none, none, none, none, none]) (st' := [.int (((2 : Int32) * (v21 &&& (1 : Int32))) + (1 : Int32)), .ref 1]) rfl ?_
          first | exact hm74 _ (by simp only [if_pos hc79]) | exact wpl_lle (by repeat (first | exact trivial | refine ⟨rfl, ?_⟩)) (hm74 _ (by simp only [if_pos hc79]))
        · refine wpl_sl (n := 4) (pc' := 141) (ls' := [some (.ref 0), some (.ref 1), some (.long x2), none, some (.int x4), some (.int v17), some (.int v21), some (.int v25), some (.int (v21 &&& (1 : Int32))), some (.int ((XT.ushr v21 (1 : Int32)) &&& (3 : Int32))), some (.int v29), some (.int (0 : Int32)), some (.long (0 : Int64)), none, some (.int (0 : Int32)), some (.int (0 : Int32)), none, none, none, none, none, none]) (st' := [.int (v21 &&& (3 : Int32)), .ref 1]) rfl ?_
          first | exact hm74 _ (by simp only [if_neg hc79]) | exact wpl_lle (by repeat (first | exact trivial | refine ⟨rfl, ?_⟩)) (hm74 _ (by simp only [if_neg hc79]))
  · have h11 := h.2 hc9
    refine wpl_sl (n := 1) (pc' := 733) (ls' := [some (.ref 0), some (.ref 1), some (.long x2), none, some (.int x4), none, none, none, none, none, none, none, none, none, none, none, none, none, none, none, none, none]) (st' := [.int (1 : Int32)]) rfl ?_
    exact wpl_ret rfl rfl rfl ⟨(1 : Int32), rfl, h11⟩
theorem l0_401 (N : Nat) (sg : Nat → Int32) (x2 : Int64) (x4 : Int32) (x5 : Int32) (x8 : Int32) (x9 : Int32) (x10 : Int32) (x11 : Int32) (x12 : Int64) (x14 : Int32) (x15 : Int32)  (Q : Int32 → Wd → Prop) (h : lalI PP QQ (some (N, sg)) 5 [.ref 1] (W1 s) (fun v81 w80 => ∃ s83, w80 = W1 s83 ∧ (wplI PP QQ (some (N, sg)) 0 lm0 410 [some (.ref 0), some (.ref 1), some (.long x2), none, some (.int x4), some (.int x5), none, none, some (.int x8), some (.int x9), some (.int x10), some (.int x11), some (.long x12), none, some (.int x14), some (.int x15), some (.int v81), some (.int (0 : Int32)), none, none, none, none] [] (W1 s83) Q))) : wplI PP QQ (some (N, sg)) 0 lm0 401 [some (.ref 0), some (.ref 1), some (.long x2), none, some (.int x4), some (.int x5), none, none, some (.int x8), some (.int x9), some (.int x10), some (.int x11), some (.long x12), none, some (.int x14), some (.int x15), none, none, none, none, none, none] [] (W1 s) Q := by
  refine wpl_sl (n := 1) (pc' := 402) (ls' := [some (.ref 0), some (.ref 1), some (.long x2), none, some (.int x4), some (.int x5), none, none, some (.int x8), some (.int x9), some (.int x10), some (.int x11), some (.long x12), none, some (.int x14), some (.int x15), none, none, none, none, none, none]) (st' := [.ref 1]) rfl ?_
  refine wpl_stat (m' := 5) (me' := lm5) (as := [.ref 1]) (r := []) rfl rfl rfl rfl rfl ⟨(by first | decide | exact Nat.le_of_ble_eq_true rfl), (by first | decide | exact Nat.le_of_ble_eq_true rfl), (by first | decide | exact Nat.le_of_ble_eq_true rfl), (by first | decide | exact Nat.le_of_ble_eq_true rfl), rfl⟩ (lal_I (lalI.mono h fun v81 w80 hh => ?_))
  obtain ⟨s83, rfl, h82⟩ := hh
  refine wpl_sl (n := 3) (pc' := 410) (ls' := [some (.ref 0), some (.ref 1), some (.long x2), none, some (.int x4), some (.int x5), none, none, some (.int x8), some (.int x9), some (.int x10), some (.int x11), some (.long x12), none, some (.int x14), some (.int x15), some (.int v81), some (.int (0 : Int32)), none, none, none, none]) (st' := []) rfl ?_
  exact h82
theorem l0_217 (N : Nat) (sg : Nat → Int32) (x2 : Int64) (x4 : Int32) (x5 : Int32) (x7 : Int32) (x8 : Int32) (x9 : Int32) (x10 : Int32) (x12 : Int64) (x14 : Int32) (x15 : Int32)  (Q : Int32 → Wd → Prop) (h : ∀ m84, m84 = (if (x7 &&& (32 : Int32)) = (0 : Int32) then ((x7 &&& (3 : Int32)) ||| ((x7 &&& (12 : Int32)) <<< ((2 : Int32) &&& 31))) else (x7 &&& (63 : Int32))) → (((x5 = (6 : Int32)) → calI PP 19 11 [.ref 0, .int x8, .int x9, .int m84] s (fun v91 s90 => wplI PP QQ (some (N, sg)) 0 lm0 277 [some (.ref 0), some (.ref 1), some (.long x2), none, some (.int x4), some (.int x5), none, none, some (.int x8), some (.int x9), some (.int x10), none, some (.long x12), none, some (.int x14), some (.int x15), none, none, none, none, none, none] [.int v91] (W1 s90) Q)) ∧ (¬ (x5 = (6 : Int32)) → calI PP 20 11 [.ref 0, .int x8, .int x9, .int m84] s (fun v94 s93 => wplI PP QQ (some (N, sg)) 0 lm0 277 [some (.ref 0), some (.ref 1), some (.long x2), none, some (.int x4), some (.int x5), none, none, some (.int x8), some (.int x9), some (.int x10), none, some (.long x12), none, some (.int x14), some (.int x15), none, none, none, none, none, none] [.int v94] (W1 s93) Q)))) : wplI PP QQ (some (N, sg)) 0 lm0 217 [some (.ref 0), some (.ref 1), some (.long x2), none, some (.int x4), some (.int x5), none, some (.int x7), some (.int x8), some (.int x9), some (.int x10), none, some (.long x12), none, some (.int x14), some (.int x15), none, none, none, none, none, none] [] (W1 s) Q := by
  refine wpl_sl (n := 3) (pc' := 222) (ls' := [some (.ref 0), some (.ref 1), some (.long x2), none, some (.int x4), some (.int x5), none, some (.int x7), some (.int x8), some (.int x9), some (.int x10), none, some (.long x12), none, some (.int x14), some (.int x15), none, none, none, none, none, none]) (st' := [.int (x7 &&& (32 : Int32))]) rfl ?_
  have hm85 : ∀ m84, m84 = (if (x7 &&& (32 : Int32)) = (0 : Int32) then ((x7 &&& (3 : Int32)) ||| ((x7 &&& (12 : Int32)) <<< ((2 : Int32) &&& 31))) else (x7 &&& (63 : Int32))) → wplI PP QQ (some (N, sg)) 0 lm0 245 [some (.ref 0), some (.ref 1), some (.long x2), none, some (.int x4), some (.int x5), none, some (.int x7), some (.int x8), some (.int x9), some (.int x10), none, some (.long x12), none, some (.int x14), some (.int x15), none, none, none, none, none, none] [.int m84] (W1 s) Q := by
    intro m84 em84
    have h86 := h m84 em84
    refine wpl_sl (n := 3) (pc' := 251) (ls' := [some (.ref 0), some (.ref 1), some (.long x2), none, some (.int x4), some (.int x5), none, some (.int x7), some (.int x8), some (.int x9), some (.int x10), none, some (.long x12), none, some (.int x14), some (.int x15), some (.int m84), none, none, none, none, none]) (st' := [.int (6 : Int32), .int x5]) rfl ?_
    refine wpl_icmp (a := 267) (b := 254) rfl (by decide) rfl rfl (wpl_br (p := x5 = (6 : Int32)) ⟨fun hc87 => ?_, fun hc87 => ?_⟩)
    · have h88 := h86.1 hc87
      refine wpl_sl (n := 4) (pc' := 261) (ls' := [some (.ref 0), some (.ref 1), some (.long x2), none, some (.int x4), some (.int x5), none, some (.int x7), some (.int x8), some (.int x9), some (.int x10), none, some (.long x12), none, some (.int x14), some (.int x15), some (.int m84), none, none, none, none, none]) (st' := [.int m84, .int x9, .int x8, .ref 1]) rfl ?_
      refine wpl_v1 (m' := 19) (me' := cm19) (as := [.int x8, .int x9, .int m84]) (r := []) rfl rfl rfl rfl rfl ⟨by decide, (by first | decide | exact Nat.le_of_ble_eq_true rfl), (by first | decide | exact Nat.le_of_ble_eq_true rfl), rfl⟩ (cal_I (calI.mono h88 fun v91 s90 h92 => ?_))
      refine wpl_sl (n := 1) (pc' := 277) (ls' := [some (.ref 0), some (.ref 1), some (.long x2), none, some (.int x4), some (.int x5), none, some (.int x7), some (.int x8), some (.int x9), some (.int x10), none, some (.long x12), none, some (.int x14), some (.int x15), some (.int m84), none, none, none, none, none]) (st' := [.int v91]) rfl ?_
      exact wpl_lle (ls := [some (.ref 0), some (.ref 1), some (.long x2), none, some (.int x4), some (.int x5), none, none, some (.int x8), some (.int x9), some (.int x10), none, some (.long x12), none, some (.int x14), some (.int x15), none, none, none, none, none, none]) ⟨rfl, rfl, rfl, rfl, rfl, rfl, rfl, rfl, rfl, rfl, rfl, trivial⟩ h92
    · have h89 := h86.2 hc87
      refine wpl_sl (n := 4) (pc' := 274) (ls' := [some (.ref 0), some (.ref 1), some (.long x2), none, some (.int x4), some (.int x5), none, some (.int x7), some (.int x8), some (.int x9), some (.int x10), none, some (.long x12), none, some (.int x14), some (.int x15), some (.int m84), none, none, none, none, none]) (st' := [.int m84, .int x9, .int x8, .ref 1]) rfl ?_
      refine wpl_v1 (m' := 20) (me' := cm20) (as := [.int x8, .int x9, .int m84]) (r := []) rfl rfl rfl rfl rfl ⟨by decide, (by first | decide | exact Nat.le_of_ble_eq_true rfl), (by first | decide | exact Nat.le_of_ble_eq_true rfl), rfl⟩ (cal_I (calI.mono h89 fun v94 s93 h95 => ?_))
      exact wpl_lle (ls := [some (.ref 0), some (.ref 1), some (.long x2), none, some (.int x4), some (.int x5), none, none, some (.int x8), some (.int x9), some (.int x10), none, some (.long x12), none, some (.int x14), some (.int x15), none, none, none, none, none, none]) ⟨rfl, rfl, rfl, rfl, rfl, rfl, rfl, rfl, rfl, rfl, rfl, trivial⟩ h95
  refine wpl_if (a := 233) (b := 225) rfl (by decide) rfl rfl (wpl_br (p := (x7 &&& (32 : Int32)) = (0 : Int32)) ⟨fun hc96 => ?_, fun hc96 => ?_⟩)
  · refine wpl_sl (n := 5) (pc' := 241) (ls' := [some (.ref 0), some (.ref 1), some (.long x2), none, some (.int x4), some (.int x5), none, some (.int x7), some (.int x8), some (.int x9), some (.int x10), none, some (.long x12), none, some (.int x14), some (.int x15), none, none, none, none, none, none]) (st' := [.int (12 : Int32), .int x7, .int (x7 &&& (3 : Int32))]) rfl ?_
    refine wpl_sl (n := 4) (pc' := 245) (ls' := [some (.ref 0), some (.ref 1), some (.long x2), none, some (.int x4), some (.int x5), none, some (.int x7), some (.int x8), some (.int x9), some (.int x10), none, some (.long x12), none, some (.int x14), some (.int x15), none, none, none, none, none, none]) (st' := [.int ((x7 &&& (3 : Int32)) ||| ((x7 &&& (12 : Int32)) <<< ((2 : Int32) &&& 31)))]) rfl ?_
    first | exact hm85 _ (by simp only [if_pos hc96]) | exact wpl_lle (by repeat (first | exact trivial | refine ⟨rfl, ?_⟩)) (hm85 _ (by simp only [if_pos hc96]))
  · refine wpl_sl (n := 4) (pc' := 245) (ls' := [some (.ref 0), some (.ref 1), some (.long x2), none, some (.int x4), some (.int x5), none, some (.int x7), some (.int x8), some (.int x9), some (.int x10), none, some (.long x12), none, some (.int x14), some (.int x15), none, none, none, none, none, none]) (st' := [.int (x7 &&& (63 : Int32))]) rfl ?_
    first | exact hm85 _ (by simp only [if_neg hc96]) | exact wpl_lle (by repeat (first | exact trivial | refine ⟨rfl, ?_⟩)) (hm85 _ (by simp only [if_neg hc96]))
theorem l0_315 (N : Nat) (sg : Nat → Int32) (x2 : Int64) (x4 : Int32) (x5 : Int32) (x8 : Int32) (x9 : Int32) (x10 : Int32) (x12 : Int64) (x14 : Int32) (x15 : Int32) (x16 : Int32)  (Q : Int32 → Wd → Prop) (h : ((x16 < (4 : Int32)) → calI PP 28 11 [.ref 0, .int x8, .int x16] s (fun v101 s100 => lalI PP QQ (some (N, sg)) 4 [.ref 1, .int x16] (W1 s100) (fun v104 w103 => ∃ s106, w103 = W1 s106 ∧ (lalI PP QQ (some (N, sg)) 6 [.long x2, .int ((x8 * (4 : Int32)) + x16)] (W1 s106) (fun v108 w107 => ∃ s110, w107 = W1 s110 ∧ (lalI PP QQ (some (N, sg)) 8 [.int v101, .int v104, .int v108] (W1 s110) (fun v112 w111 => ∃ s114, w111 = W1 s114 ∧ (∀ m115, m115 = (if v112 = (0 : Int32) then x12 else (if x14 < x15 then (x12 ||| ((Int32.toInt64 (x16 ||| (v112 <<< ((2 : Int32) &&& 31)))) <<< ((((6 : Int32) * x14)).toInt64 &&& 63))) else x12)) → ∀ m116, m116 = (if v112 = (0 : Int32) then x14 else (if x14 < x15 then (x14 + (1 : Int32)) else x14)) → (wplI PP QQ (some (N, sg)) 0 lm0 315 [some (.ref 0), some (.ref 1), some (.long x2), none, some (.int x4), some (.int x5), none, none, some (.int x8), some (.int x9), some (.int x10), none, some (.long m115), none, some (.int m116), some (.int x15), some (.int (x16 + (1 : Int32))), none, none, none, none, none] [] (W1 s114) Q))))))))) ∧ (¬ (x16 < (4 : Int32)) → calI PP 22 11 [.ref 0, .int x8, .int x15] s (fun v122 s121 => wplI PP QQ (some (N, sg)) 0 lm0 401 [some (.ref 0), some (.ref 1), some (.long x2), none, some (.int x4), some (.int x5), none, none, some (.int x8), some (.int x9), some (.int x10), some (.int v122), some (.long x12), none, some (.int x14), some (.int x15), none, none, none, none, none, none] [] (W1 s121) Q))) : wplI PP QQ (some (N, sg)) 0 lm0 315 [some (.ref 0), some (.ref 1), some (.long x2), none, some (.int x4), some (.int x5), none, none, some (.int x8), some (.int x9), some (.int x10), none, some (.long x12), none, some (.int x14), some (.int x15), some (.int x16), none, none, none, none, none] [] (W1 s) Q := by
  refine wpl_sl (n := 2) (pc' := 318) (ls' := [some (.ref 0), some (.ref 1), some (.long x2), none, some (.int x4), some (.int x5), none, none, some (.int x8), some (.int x9), some (.int x10), none, some (.long x12), none, some (.int x14), some (.int x15), some (.int x16), none, none, none, none, none]) (st' := [.int (4 : Int32), .int x16]) rfl ?_
  refine wpl_icmp (a := 391) (b := 321) rfl (by decide) rfl rfl (wpl_br (p := x16 < (4 : Int32)) ⟨fun hc97 => ?_, fun hc97 => ?_⟩)
  · have h98 := h.1 hc97
    refine wpl_sl (n := 3) (pc' := 326) (ls' := [some (.ref 0), some (.ref 1), some (.long x2), none, some (.int x4), some (.int x5), none, none, some (.int x8), some (.int x9), some (.int x10), none, some (.long x12), none, some (.int x14), some (.int x15), some (.int x16), none, none, none, none, none]) (st' := [.int x16, .int x8, .ref 1]) rfl ?_
    refine wpl_v1 (m' := 28) (me' := cm28) (as := [.int x8, .int x16]) (r := []) rfl rfl rfl rfl rfl ⟨by decide, (by first | decide | exact Nat.le_of_ble_eq_true rfl), (by first | decide | exact Nat.le_of_ble_eq_true rfl), rfl⟩ (cal_I (calI.mono h98 fun v101 s100 h102 => ?_))
    refine wpl_sl (n := 2) (pc' := 332) (ls' := [some (.ref 0), some (.ref 1), some (.long x2), none, some (.int x4), some (.int x5), none, none, some (.int x8), some (.int x9), some (.int x10), none, some (.long x12), none, some (.int x14), some (.int x15), some (.int x16), none, none, none, none, none]) (st' := [.int x16, .ref 1, .int v101]) rfl ?_
    refine wpl_stat (m' := 4) (me' := lm4) (as := [.ref 1, .int x16]) (r := [.int v101]) rfl rfl rfl rfl rfl ⟨(by first | decide | exact Nat.le_of_ble_eq_true rfl), (by first | decide | exact Nat.le_of_ble_eq_true rfl), (by first | decide | exact Nat.le_of_ble_eq_true rfl), (by first | decide | exact Nat.le_of_ble_eq_true rfl), rfl⟩ (lal_I (lalI.mono h102 fun v104 w103 hh => ?_))
    obtain ⟨s106, rfl, h105⟩ := hh
    refine wpl_sl (n := 6) (pc' := 343) (ls' := [some (.ref 0), some (.ref 1), some (.long x2), none, some (.int x4), some (.int x5), none, none, some (.int x8), some (.int x9), some (.int x10), none, some (.long x12), none, some (.int x14), some (.int x15), some (.int x16), none, none, none, none, none]) (st' := [.int ((x8 * (4 : Int32)) + x16), .long x2, .int v104, .int v101]) rfl ?_
    refine wpl_stat (m' := 6) (me' := lm6) (as := [.long x2, .int ((x8 * (4 : Int32)) + x16)]) (r := [.int v104, .int v101]) rfl rfl rfl rfl rfl ⟨(by first | decide | exact Nat.le_of_ble_eq_true rfl), (by first | decide | exact Nat.le_of_ble_eq_true rfl), (by first | decide | exact Nat.le_of_ble_eq_true rfl), (by first | decide | exact Nat.le_of_ble_eq_true rfl), rfl⟩ (lal_I (lalI.mono h105 fun v108 w107 hh => ?_))
    obtain ⟨s110, rfl, h109⟩ := hh
    refine wpl_stat (m' := 8) (me' := lm8) (as := [.int v101, .int v104, .int v108]) (r := []) rfl rfl rfl rfl rfl ⟨(by first | decide | exact Nat.le_of_ble_eq_true rfl), (by first | decide | exact Nat.le_of_ble_eq_true rfl), (by first | decide | exact Nat.le_of_ble_eq_true rfl), (by first | decide | exact Nat.le_of_ble_eq_true rfl), rfl⟩ (lal_I (lalI.mono h109 fun v112 w111 hh => ?_))
    obtain ⟨s114, rfl, h113⟩ := hh
    refine wpl_sl (n := 2) (pc' := 353) (ls' := [some (.ref 0), some (.ref 1), some (.long x2), none, some (.int x4), some (.int x5), none, none, some (.int x8), some (.int x9), some (.int x10), none, some (.long x12), none, some (.int x14), some (.int x15), some (.int x16), some (.int v112), none, none, none, none]) (st' := [.int v112]) rfl ?_
    have hm117 : ∀ m115, m115 = (if v112 = (0 : Int32) then x12 else (if x14 < x15 then (x12 ||| ((Int32.toInt64 (x16 ||| (v112 <<< ((2 : Int32) &&& 31)))) <<< ((((6 : Int32) * x14)).toInt64 &&& 63))) else x12)) → ∀ m116, m116 = (if v112 = (0 : Int32) then x14 else (if x14 < x15 then (x14 + (1 : Int32)) else x14)) → wplI PP QQ (some (N, sg)) 0 lm0 385 [some (.ref 0), some (.ref 1), some (.long x2), none, some (.int x4), some (.int x5), none, none, some (.int x8), some (.int x9), some (.int x10), none, some (.long m115), none, some (.int m116), some (.int x15), some (.int x16), some (.int v112), none, none, none, none] [] (W1 s114) Q := by
      intro m115 em115 m116 em116
      have h118 := h113 m115 em115 m116 em116
      refine wpl_sl (n := 2) (pc' := 315) (ls' := [some (.ref 0), some (.ref 1), some (.long x2), none, some (.int x4), some (.int x5), none, none, some (.int x8), some (.int x9), some (.int x10), none, some (.long m115), none, some (.int m116), some (.int x15), some (.int (x16 + (1 : Int32))), some (.int v112), none, none, none, none]) (st' := []) rfl ?_
      exact wpl_lle (ls := [some (.ref 0), some (.ref 1), some (.long x2), none, some (.int x4), some (.int x5), none, none, some (.int x8), some (.int x9), some (.int x10), none, some (.long m115), none, some (.int m116), some (.int x15), some (.int (x16 + (1 : Int32))), none, none, none, none, none]) ⟨rfl, rfl, rfl, rfl, rfl, rfl, rfl, rfl, rfl, rfl, rfl, rfl, trivial⟩ h118
    refine wpl_if (a := 385) (b := 356) rfl (by decide) rfl rfl (wpl_br (p := v112 = (0 : Int32)) ⟨fun hc119 => ?_, fun hc119 => ?_⟩)
    · first | exact hm117 _ (by simp only [if_pos hc119]) _ (by simp only [if_pos hc119]) | exact wpl_lle (by repeat (first | exact trivial | refine ⟨rfl, ?_⟩)) (hm117 _ (by simp only [if_pos hc119]) _ (by simp only [if_pos hc119]))
    · refine wpl_sl (n := 2) (pc' := 360) (ls' := [some (.ref 0), some (.ref 1), some (.long x2), none, some (.int x4), some (.int x5), none, none, some (.int x8), some (.int x9), some (.int x10), none, some (.long x12), none, some (.int x14), some (.int x15), some (.int x16), some (.int v112), none, none, none, none]) (st' := [.int x15, .int x14]) rfl ?_
      refine wpl_icmp (a := 385) (b := 363) rfl (by decide) rfl rfl (wpl_br (p := x14 < x15) ⟨fun hc120 => ?_, fun hc120 => ?_⟩)
      · refine wpl_sl (n := 5) (pc' := 371) (ls' := [some (.ref 0), some (.ref 1), some (.long x2), none, some (.int x4), some (.int x5), none, none, some (.int x8), some (.int x9), some (.int x10), none, some (.long x12), none, some (.int x14), some (.int x15), some (.int x16), some (.int v112), none, none, none, none]) (st' := [.int (v112 <<< ((2 : Int32) &&& 31)), .int x16, .long x12]) rfl ?_
        refine wpl_sl (n := 5) (pc' := 378) (ls' := [some (.ref 0), some (.ref 1), some (.long x2), none, some (.int x4), some (.int x5), none, none, some (.int x8), some (.int x9), some (.int x10), none, some (.long x12), none, some (.int x14), some (.int x15), some (.int x16), some (.int v112), none, none, none, none]) (st' := [.int ((6 : Int32) * x14), .long (Int32.toInt64 (x16 ||| (v112 <<< ((2 : Int32) &&& 31)))), .long x12]) rfl ?_
        refine wpl_sl (n := 4) (pc' := 385) (ls' := [some (.ref 0), some (.ref 1), some (.long x2), none, some (.int x4), some (.int x5), none, none, some (.int x8), some (.int x9), some (.int x10), none, some (.long (x12 ||| ((Int32.toInt64 (x16 ||| (v112 <<< ((2 : Int32) &&& 31)))) <<< ((((6 : Int32) * x14)).toInt64 &&& 63)))), none, some (.int (x14 + (1 : Int32))), some (.int x15), some (.int x16), some (.int v112), none, none, none, none]) (st' := []) rfl ?_
        first | exact hm117 _ (by simp only [if_neg hc119, if_pos hc120]) _ (by simp only [if_neg hc119, if_pos hc120]) | exact wpl_lle (by repeat (first | exact trivial | refine ⟨rfl, ?_⟩)) (hm117 _ (by simp only [if_neg hc119, if_pos hc120]) _ (by simp only [if_neg hc119, if_pos hc120]))
      · first | exact hm117 _ (by simp only [if_neg hc119, if_neg hc120]) _ (by simp only [if_neg hc119, if_neg hc120]) | exact wpl_lle (by repeat (first | exact trivial | refine ⟨rfl, ?_⟩)) (hm117 _ (by simp only [if_neg hc119, if_neg hc120]) _ (by simp only [if_neg hc119, if_neg hc120]))
  · have h99 := h.2 hc97
    refine wpl_sl (n := 3) (pc' := 396) (ls' := [some (.ref 0), some (.ref 1), some (.long x2), none, some (.int x4), some (.int x5), none, none, some (.int x8), some (.int x9), some (.int x10), none, some (.long x12), none, some (.int x14), some (.int x15), some (.int x16), none, none, none, none, none]) (st' := [.int x15, .int x8, .ref 1]) rfl ?_
    refine wpl_v1 (m' := 22) (me' := cm22) (as := [.int x8, .int x15]) (r := []) rfl rfl rfl rfl rfl ⟨by decide, (by first | decide | exact Nat.le_of_ble_eq_true rfl), (by first | decide | exact Nat.le_of_ble_eq_true rfl), rfl⟩ (cal_I (calI.mono h99 fun v122 s121 h123 => ?_))
    refine wpl_sl (n := 1) (pc' := 401) (ls' := [some (.ref 0), some (.ref 1), some (.long x2), none, some (.int x4), some (.int x5), none, none, some (.int x8), some (.int x9), some (.int x10), some (.int v122), some (.long x12), none, some (.int x14), some (.int x15), some (.int x16), none, none, none, none, none]) (st' := []) rfl ?_
    exact wpl_lle (ls := [some (.ref 0), some (.ref 1), some (.long x2), none, some (.int x4), some (.int x5), none, none, some (.int x8), some (.int x9), some (.int x10), some (.int v122), some (.long x12), none, some (.int x14), some (.int x15), none, none, none, none, none, none]) ⟨rfl, rfl, rfl, rfl, rfl, rfl, rfl, rfl, rfl, rfl, rfl, rfl, trivial⟩ h123
theorem l0_410 (N : Nat) (sg : Nat → Int32) (x2 : Int64) (x4 : Int32) (x5 : Int32) (x8 : Int32) (x9 : Int32) (x10 : Int32) (x11 : Int32) (x12 : Int64) (x14 : Int32) (x15 : Int32) (x16 : Int32) (x17 : Int32)  (Q : Int32 → Wd → Prop) (h : ((x17 < (8 : Int32)) → lalI PP QQ (some (N, sg)) 6 [.long x2, .int x17] (W1 s) (fun v128 w127 => ∃ s130, w127 = W1 s130 ∧ (lalL PP QQ (some (N, sg)) 7 [.long x2, .int x17, .int ((v128 &&& ((XT.ushr x16 ((4 : Int32) * (x17 &&& (3 : Int32)))) &&& (15 : Int32))) ||| (((XT.ushr x16 ((4 : Int32) * (x17 &&& (3 : Int32)))) &&& (15 : Int32)) &&& (((XT.ushr x10 ((4 : Int32) * (x17 &&& (3 : Int32)))) &&& (15 : Int32)) ^^^ (-1 : Int32))))] (W1 s130) (fun v132 w131 => ∃ s134, w131 = W1 s134 ∧ (wplI PP QQ (some (N, sg)) 0 lm0 410 [some (.ref 0), some (.ref 1), some (.long v132), none, some (.int x4), some (.int x5), none, none, some (.int x8), some (.int x9), some (.int x10), some (.int x11), some (.long x12), none, some (.int x14), some (.int x15), some (.int x16), some (.int (x17 + (1 : Int32))), none, none, none, none] [] (W1 s134) Q))))) ∧ (¬ (x17 < (8 : Int32)) → ((x5 = (6 : Int32)) → wplI PP QQ (some (N, sg)) 0 lm0 491 [some (.ref 0), some (.ref 1), some (.long x2), none, some (.int x4), some (.int x5), none, none, some (.int x8), some (.int x9), none, some (.int x11), some (.long x12), none, some (.int x14), some (.int x15), some (.int x16), none, none, none, none, none] [] (W1 s) Q) ∧ (¬ (x5 = (6 : Int32)) → ((x5 = (7 : Int32)) → wplI PP QQ (some (N, sg)) 0 lm0 491 [some (.ref 0), some (.ref 1), some (.long x2), none, some (.int x4), some (.int x5), none, none, some (.int x8), some (.int x9), none, some (.int x11), some (.long x12), none, some (.int x14), some (.int x15), some (.int x16), none, none, none, none, none] [] (W1 s) Q) ∧ (¬ (x5 = (7 : Int32)) → wplI PP QQ (some (N, sg)) 0 lm0 518 [some (.ref 0), some (.ref 1), some (.long x2), none, some (.int x4), some (.int x5), none, none, some (.int x8), none, none, some (.int x11), some (.long x12), none, some (.int x14), some (.int x15), none, none, none, none, none, none] [] (W1 s) Q)))) : wplI PP QQ (some (N, sg)) 0 lm0 410 [some (.ref 0), some (.ref 1), some (.long x2), none, some (.int x4), some (.int x5), none, none, some (.int x8), some (.int x9), some (.int x10), some (.int x11), some (.long x12), none, some (.int x14), some (.int x15), some (.int x16), some (.int x17), none, none, none, none] [] (W1 s) Q := by
  refine wpl_sl (n := 2) (pc' := 414) (ls' := [some (.ref 0), some (.ref 1), some (.long x2), none, some (.int x4), some (.int x5), none, none, some (.int x8), some (.int x9), some (.int x10), some (.int x11), some (.long x12), none, some (.int x14), some (.int x15), some (.int x16), some (.int x17), none, none, none, none]) (st' := [.int (8 : Int32), .int x17]) rfl ?_
  refine wpl_icmp (a := 477) (b := 417) rfl (by decide) rfl rfl (wpl_br (p := x17 < (8 : Int32)) ⟨fun hc124 => ?_, fun hc124 => ?_⟩)
  · have h125 := h.1 hc124
    refine wpl_sl (n := 5) (pc' := 425) (ls' := [some (.ref 0), some (.ref 1), some (.long x2), none, some (.int x4), some (.int x5), none, none, some (.int x8), some (.int x9), some (.int x10), some (.int x11), some (.long x12), none, some (.int x14), some (.int x15), some (.int x16), some (.int x17), some (.int (x17 &&& (3 : Int32))), none, none, none]) (st' := [.int x10]) rfl ?_
    refine wpl_sl (n := 5) (pc' := 432) (ls' := [some (.ref 0), some (.ref 1), some (.long x2), none, some (.int x4), some (.int x5), none, none, some (.int x8), some (.int x9), some (.int x10), some (.int x11), some (.long x12), none, some (.int x14), some (.int x15), some (.int x16), some (.int x17), some (.int (x17 &&& (3 : Int32))), none, none, none]) (st' := [.int (15 : Int32), .int (XT.ushr x10 ((4 : Int32) * (x17 &&& (3 : Int32))))]) rfl ?_
    refine wpl_sl (n := 5) (pc' := 440) (ls' := [some (.ref 0), some (.ref 1), some (.long x2), none, some (.int x4), some (.int x5), none, none, some (.int x8), some (.int x9), some (.int x10), some (.int x11), some (.long x12), none, some (.int x14), some (.int x15), some (.int x16), some (.int x17), some (.int (x17 &&& (3 : Int32))), some (.int ((XT.ushr x10 ((4 : Int32) * (x17 &&& (3 : Int32)))) &&& (15 : Int32))), none, none]) (st' := [.int (x17 &&& (3 : Int32)), .int (4 : Int32), .int x16]) rfl ?_
    refine wpl_sl (n := 5) (pc' := 447) (ls' := [some (.ref 0), some (.ref 1), some (.long x2), none, some (.int x4), some (.int x5), none, none, some (.int x8), some (.int x9), some (.int x10), some (.int x11), some (.long x12), none, some (.int x14), some (.int x15), some (.int x16), some (.int x17), some (.int (x17 &&& (3 : Int32))), some (.int ((XT.ushr x10 ((4 : Int32) * (x17 &&& (3 : Int32)))) &&& (15 : Int32))), some (.int ((XT.ushr x16 ((4 : Int32) * (x17 &&& (3 : Int32)))) &&& (15 : Int32))), none]) (st' := []) rfl ?_
    refine wpl_sl (n := 4) (pc' := 453) (ls' := [some (.ref 0), some (.ref 1), some (.long x2), none, some (.int x4), some (.int x5), none, none, some (.int x8), some (.int x9), some (.int x10), some (.int x11), some (.long x12), none, some (.int x14), some (.int x15), some (.int x16), some (.int x17), some (.int (x17 &&& (3 : Int32))), some (.int ((XT.ushr x10 ((4 : Int32) * (x17 &&& (3 : Int32)))) &&& (15 : Int32))), some (.int ((XT.ushr x16 ((4 : Int32) * (x17 &&& (3 : Int32)))) &&& (15 : Int32))), none]) (st' := [.int x17, .long x2, .int x17, .long x2]) rfl ?_
    refine wpl_stat (m' := 6) (me' := lm6) (as := [.long x2, .int x17]) (r := [.int x17, .long x2]) rfl rfl rfl rfl rfl ⟨(by first | decide | exact Nat.le_of_ble_eq_true rfl), (by first | decide | exact Nat.le_of_ble_eq_true rfl), (by first | decide | exact Nat.le_of_ble_eq_true rfl), (by first | decide | exact Nat.le_of_ble_eq_true rfl), rfl⟩ (lal_I (lalI.mono h125 fun v128 w127 hh => ?_))
    obtain ⟨s130, rfl, h129⟩ := hh
    refine wpl_sl (n := 8) (pc' := 467) (ls' := [some (.ref 0), some (.ref 1), some (.long x2), none, some (.int x4), some (.int x5), none, none, some (.int x8), some (.int x9), some (.int x10), some (.int x11), some (.long x12), none, some (.int x14), some (.int x15), some (.int x16), some (.int x17), some (.int (x17 &&& (3 : Int32))), some (.int ((XT.ushr x10 ((4 : Int32) * (x17 &&& (3 : Int32)))) &&& (15 : Int32))), some (.int ((XT.ushr x16 ((4 : Int32) * (x17 &&& (3 : Int32)))) &&& (15 : Int32))), none]) (st' := [.int ((v128 &&& ((XT.ushr x16 ((4 : Int32) * (x17 &&& (3 : Int32)))) &&& (15 : Int32))) ||| (((XT.ushr x16 ((4 : Int32) * (x17 &&& (3 : Int32)))) &&& (15 : Int32)) &&& (((XT.ushr x10 ((4 : Int32) * (x17 &&& (3 : Int32)))) &&& (15 : Int32)) ^^^ (-1 : Int32)))), .int x17, .long x2]) rfl ?_
    refine wpl_stat (m' := 7) (me' := lm7) (as := [.long x2, .int x17, .int ((v128 &&& ((XT.ushr x16 ((4 : Int32) * (x17 &&& (3 : Int32)))) &&& (15 : Int32))) ||| (((XT.ushr x16 ((4 : Int32) * (x17 &&& (3 : Int32)))) &&& (15 : Int32)) &&& (((XT.ushr x10 ((4 : Int32) * (x17 &&& (3 : Int32)))) &&& (15 : Int32)) ^^^ (-1 : Int32))))]) (r := []) rfl rfl rfl rfl rfl ⟨(by first | decide | exact Nat.le_of_ble_eq_true rfl), (by first | decide | exact Nat.le_of_ble_eq_true rfl), (by first | decide | exact Nat.le_of_ble_eq_true rfl), (by first | decide | exact Nat.le_of_ble_eq_true rfl), rfl⟩ (lal_L (lalL.mono h129 fun v132 w131 hh => ?_))
    obtain ⟨s134, rfl, h133⟩ := hh
    refine wpl_sl (n := 3) (pc' := 410) (ls' := [some (.ref 0), some (.ref 1), some (.long v132), none, some (.int x4), some (.int x5), none, none, some (.int x8), some (.int x9), some (.int x10), some (.int x11), some (.long x12), none, some (.int x14), some (.int x15), some (.int x16), some (.int (x17 + (1 : Int32))), some (.int (x17 &&& (3 : Int32))), some (.int ((XT.ushr x10 ((4 : Int32) * (x17 &&& (3 : Int32)))) &&& (15 : Int32))), some (.int ((XT.ushr x16 ((4 : Int32) * (x17 &&& (3 : Int32)))) &&& (15 : Int32))), none]) (st' := []) rfl ?_
    exact wpl_lle (ls := [some (.ref 0), some (.ref 1), some (.long v132), none, some (.int x4), some (.int x5), none, none, some (.int x8), some (.int x9), some (.int x10), some (.int x11), some (.long x12), none, some (.int x14), some (.int x15), some (.int x16), some (.int (x17 + (1 : Int32))), none, none, none, none]) ⟨rfl, rfl, rfl, rfl, rfl, rfl, rfl, rfl, rfl, rfl, rfl, rfl, rfl, rfl, trivial⟩ h133
  · have h126 := h.2 hc124
    refine wpl_sl (n := 2) (pc' := 481) (ls' := [some (.ref 0), some (.ref 1), some (.long x2), none, some (.int x4), some (.int x5), none, none, some (.int x8), some (.int x9), some (.int x10), some (.int x11), some (.long x12), none, some (.int x14), some (.int x15), some (.int x16), some (.int x17), none, none, none, none]) (st' := [.int (6 : Int32), .int x5]) rfl ?_
    refine wpl_icmp (a := 491) (b := 484) rfl (by decide) rfl rfl (wpl_br (p := x5 = (6 : Int32)) ⟨fun hc135 => ?_, fun hc135 => ?_⟩)
    · have h136 := h126.1 hc135
      exact wpl_lle (ls := [some (.ref 0), some (.ref 1), some (.long x2), none, some (.int x4), some (.int x5), none, none, some (.int x8), some (.int x9), none, some (.int x11), some (.long x12), none, some (.int x14), some (.int x15), some (.int x16), none, none, none, none, none]) ⟨rfl, rfl, rfl, rfl, rfl, rfl, rfl, rfl, rfl, rfl, rfl, rfl, trivial⟩ h136
    · have h137 := h126.2 hc135
      refine wpl_sl (n := 2) (pc' := 488) (ls' := [some (.ref 0), some (.ref 1), some (.long x2), none, some (.int x4), some (.int x5), none, none, some (.int x8), some (.int x9), some (.int x10), some (.int x11), some (.long x12), none, some (.int x14), some (.int x15), some (.int x16), some (.int x17), none, none, none, none]) (st' := [.int (7 : Int32), .int x5]) rfl ?_
      refine wpl_icmp (a := 518) (b := 491) rfl (by decide) rfl rfl (wpl_br (p := x5 = (7 : Int32)) ⟨fun hc138 => ?_, fun hc138 => ?_⟩)
      · have h139 := h137.1 hc138
        exact wpl_lle (ls := [some (.ref 0), some (.ref 1), some (.long x2), none, some (.int x4), some (.int x5), none, none, some (.int x8), some (.int x9), none, some (.int x11), some (.long x12), none, some (.int x14), some (.int x15), some (.int x16), none, none, none, none, none]) ⟨rfl, rfl, rfl, rfl, rfl, rfl, rfl, rfl, rfl, rfl, rfl, rfl, trivial⟩ h139
      · have h140 := h137.2 hc138
        exact wpl_lle (ls := [some (.ref 0), some (.ref 1), some (.long x2), none, some (.int x4), some (.int x5), none, none, some (.int x8), none, none, some (.int x11), some (.long x12), none, some (.int x14), some (.int x15), none, none, none, none, none, none]) ⟨rfl, rfl, rfl, rfl, rfl, rfl, rfl, rfl, rfl, rfl, trivial⟩ h140
theorem l0_277 (N : Nat) (sg : Nat → Int32) (x2 : Int64) (x4 : Int32) (x5 : Int32) (x8 : Int32) (x9 : Int32) (x10 : Int32) (x12 : Int64) (x14 : Int32) (x15 : Int32) (y0 : Int32)  (Q : Int32 → Wd → Prop) (h : wplI PP QQ (some (N, sg)) 0 lm0 401 [some (.ref 0), some (.ref 1), some (.long x2), none, some (.int x4), some (.int x5), none, none, some (.int x8), some (.int x9), some (.int x10), some (.int y0), some (.long x12), none, some (.int x14), some (.int x15), none, none, none, none, none, none] [] (W1 s) Q) : wplI PP QQ (some (N, sg)) 0 lm0 277 [some (.ref 0), some (.ref 1), some (.long x2), none, some (.int x4), some (.int x5), none, none, some (.int x8), some (.int x9), some (.int x10), none, some (.long x12), none, some (.int x14), some (.int x15), none, none, none, none, none, none] [.int y0] (W1 s) Q := by
  refine wpl_sl (n := 2) (pc' := 401) (ls' := [some (.ref 0), some (.ref 1), some (.long x2), none, some (.int x4), some (.int x5), none, none, some (.int x8), some (.int x9), some (.int x10), some (.int y0), some (.long x12), none, some (.int x14), some (.int x15), none, none, none, none, none, none]) (st' := []) rfl ?_
  exact h
theorem l0_491 (N : Nat) (sg : Nat → Int32) (x2 : Int64) (x4 : Int32) (x5 : Int32) (x8 : Int32) (x9 : Int32) (x11 : Int32) (x12 : Int64) (x14 : Int32) (x15 : Int32) (x16 : Int32)  (Q : Int32 → Wd → Prop) (h : ((x11 = (0 : Int32)) → lalL PP QQ (some (N, sg)) 7 [.long x2, .int ((x8 * (4 : Int32)) + x9), .int ((XT.ushr x16 ((4 : Int32) * x9)) &&& (15 : Int32))] (W1 s) (fun v145 w144 => ∃ s147, w144 = W1 s147 ∧ (wplI PP QQ (some (N, sg)) 0 lm0 518 [some (.ref 0), some (.ref 1), some (.long v145), none, some (.int x4), some (.int x5), none, none, some (.int x8), none, none, some (.int x11), some (.long x12), none, some (.int x14), some (.int x15), none, none, none, none, none, none] [] (W1 s147) Q))) ∧ (¬ (x11 = (0 : Int32)) → wplI PP QQ (some (N, sg)) 0 lm0 518 [some (.ref 0), some (.ref 1), some (.long x2), none, some (.int x4), some (.int x5), none, none, some (.int x8), none, none, some (.int x11), some (.long x12), none, some (.int x14), some (.int x15), none, none, none, none, none, none] [] (W1 s) Q)) : wplI PP QQ (some (N, sg)) 0 lm0 491 [some (.ref 0), some (.ref 1), some (.long x2), none, some (.int x4), some (.int x5), none, none, some (.int x8), some (.int x9), none, some (.int x11), some (.long x12), none, some (.int x14), some (.int x15), some (.int x16), none, none, none, none, none] [] (W1 s) Q := by
  refine wpl_sl (n := 1) (pc' := 493) (ls' := [some (.ref 0), some (.ref 1), some (.long x2), none, some (.int x4), some (.int x5), none, none, some (.int x8), some (.int x9), none, some (.int x11), some (.long x12), none, some (.int x14), some (.int x15), some (.int x16), none, none, none, none, none]) (st' := [.int x11]) rfl ?_
  refine wpl_if (a := 518) (b := 496) rfl (by decide) rfl rfl (wpl_br (p := x11 = (0 : Int32)) ⟨fun hc141 => ?_, fun hc141 => ?_⟩)
  · have h142 := h.1 hc141
    refine wpl_sl (n := 5) (pc' := 503) (ls' := [some (.ref 0), some (.ref 1), some (.long x2), none, some (.int x4), some (.int x5), none, none, some (.int x8), some (.int x9), none, some (.int x11), some (.long x12), none, some (.int x14), some (.int x15), some (.int x16), none, none, none, none, none]) (st' := [.int x9, .int (x8 * (4 : Int32)), .long x2]) rfl ?_
    refine wpl_sl (n := 5) (pc' := 510) (ls' := [some (.ref 0), some (.ref 1), some (.long x2), none, some (.int x4), some (.int x5), none, none, some (.int x8), some (.int x9), none, some (.int x11), some (.long x12), none, some (.int x14), some (.int x15), some (.int x16), none, none, none, none, none]) (st' := [.int ((4 : Int32) * x9), .int x16, .int ((x8 * (4 : Int32)) + x9), .long x2]) rfl ?_
    refine wpl_sl (n := 3) (pc' := 514) (ls' := [some (.ref 0), some (.ref 1), some (.long x2), none, some (.int x4), some (.int x5), none, none, some (.int x8), some (.int x9), none, some (.int x11), some (.long x12), none, some (.int x14), some (.int x15), some (.int x16), none, none, none, none, none]) (st' := [.int ((XT.ushr x16 ((4 : Int32) * x9)) &&& (15 : Int32)), .int ((x8 * (4 : Int32)) + x9), .long x2]) rfl ?_
    refine wpl_stat (m' := 7) (me' := lm7) (as := [.long x2, .int ((x8 * (4 : Int32)) + x9), .int ((XT.ushr x16 ((4 : Int32) * x9)) &&& (15 : Int32))]) (r := []) rfl rfl rfl rfl rfl ⟨(by first | decide | exact Nat.le_of_ble_eq_true rfl), (by first | decide | exact Nat.le_of_ble_eq_true rfl), (by first | decide | exact Nat.le_of_ble_eq_true rfl), (by first | decide | exact Nat.le_of_ble_eq_true rfl), rfl⟩ (lal_L (lalL.mono h142 fun v145 w144 hh => ?_))
    obtain ⟨s147, rfl, h146⟩ := hh
    refine wpl_sl (n := 1) (pc' := 518) (ls' := [some (.ref 0), some (.ref 1), some (.long v145), none, some (.int x4), some (.int x5), none, none, some (.int x8), some (.int x9), none, some (.int x11), some (.long x12), none, some (.int x14), some (.int x15), some (.int x16), none, none, none, none, none]) (st' := []) rfl ?_
    exact wpl_lle (ls := [some (.ref 0), some (.ref 1), some (.long v145), none, some (.int x4), some (.int x5), none, none, some (.int x8), none, none, some (.int x11), some (.long x12), none, some (.int x14), some (.int x15), none, none, none, none, none, none]) ⟨rfl, rfl, rfl, rfl, rfl, rfl, rfl, rfl, rfl, rfl, trivial⟩ h146
  · have h143 := h.2 hc141
    exact wpl_lle (ls := [some (.ref 0), some (.ref 1), some (.long x2), none, some (.int x4), some (.int x5), none, none, some (.int x8), none, none, some (.int x11), some (.long x12), none, some (.int x14), some (.int x15), none, none, none, none, none, none]) ⟨rfl, rfl, rfl, rfl, rfl, rfl, rfl, rfl, rfl, rfl, trivial⟩ h143
theorem l0_518 (N : Nat) (sg : Nat → Int32) (x2 : Int64) (x4 : Int32) (x5 : Int32) (x8 : Int32) (x11 : Int32) (x12 : Int64) (x14 : Int32) (x15 : Int32)  (Q : Int32 → Wd → Prop) (h : ((x5 < (9 : Int32)) → wplI PP QQ (some (N, sg)) 0 lm0 614 [some (.ref 0), some (.ref 1), some (.long x2), none, some (.int x4), none, none, none, none, none, none, none, none, none, none, none, none, none, none, none, none, none] [] (W1 s) Q) ∧ (¬ (x5 < (9 : Int32)) → ((x15 < (1 : Int32)) → wplI PP QQ (some (N, sg)) 0 lm0 614 [some (.ref 0), some (.ref 1), some (.long x2), none, some (.int x4), none, none, none, none, none, none, none, none, none, none, none, none, none, none, none, none, none] [] (W1 s) Q) ∧ (¬ (x15 < (1 : Int32)) → ((x11 = x14) → wplI PP QQ (some (N, sg)) 0 lm0 543 [some (.ref 0), some (.ref 1), some (.long x2), none, some (.int x4), none, none, none, some (.int x8), none, none, none, some (.long x12), none, some (.int x14), none, none, some (.int (0 : Int32)), none, none, none, none] [] (W1 s) Q) ∧ (¬ (x11 = x14) → Q (0 : Int32) (W1 s))))) : wplI PP QQ (some (N, sg)) 0 lm0 518 [some (.ref 0), some (.ref 1), some (.long x2), none, some (.int x4), some (.int x5), none, none, some (.int x8), none, none, some (.int x11), some (.long x12), none, some (.int x14), some (.int x15), none, none, none, none, none, none] [] (W1 s) Q := by
  refine wpl_sl (n := 2) (pc' := 522) (ls' := [some (.ref 0), some (.ref 1), some (.long x2), none, some (.int x4), some (.int x5), none, none, some (.int x8), none, none, some (.int x11), some (.long x12), none, some (.int x14), some (.int x15), none, none, none, none, none, none]) (st' := [.int (9 : Int32), .int x5]) rfl ?_
  refine wpl_icmp (a := 614) (b := 525) rfl (by decide) rfl rfl (wpl_br (p := x5 < (9 : Int32)) ⟨fun hc148 => ?_, fun hc148 => ?_⟩)
  · have h149 := h.1 hc148
    exact wpl_lle (ls := [some (.ref 0), some (.ref 1), some (.long x2), none, some (.int x4), none, none, none, none, none, none, none, none, none, none, none, none, none, none, none, none, none]) ⟨rfl, rfl, rfl, rfl, trivial⟩ h149
  · have h150 := h.2 hc148
    refine wpl_sl (n := 2) (pc' := 528) (ls' := [some (.ref 0), some (.ref 1), some (.long x2), none, some (.int x4), some (.int x5), none, none, some (.int x8), none, none, some (.int x11), some (.long x12), none, some (.int x14), some (.int x15), none, none, none, none, none, none]) (st' := [.int (1 : Int32), .int x15]) rfl ?_
    refine wpl_icmp (a := 614) (b := 531) rfl (by decide) rfl rfl (wpl_br (p := x15 < (1 : Int32)) ⟨fun hc151 => ?_, fun hc151 => ?_⟩)
    · have h152 := h150.1 hc151
      exact wpl_lle (ls := [some (.ref 0), some (.ref 1), some (.long x2), none, some (.int x4), none, none, none, none, none, none, none, none, none, none, none, none, none, none, none, none, none]) ⟨rfl, rfl, rfl, rfl, trivial⟩ h152
    · have h153 := h150.2 hc151
      refine wpl_sl (n := 2) (pc' := 535) (ls' := [some (.ref 0), some (.ref 1), some (.long x2), none, some (.int x4), some (.int x5), none, none, some (.int x8), none, none, some (.int x11), some (.long x12), none, some (.int x14), some (.int x15), none, none, none, none, none, none]) (st' := [.int x14, .int x11]) rfl ?_
      refine wpl_icmp (a := 540) (b := 538) rfl (by decide) rfl rfl (wpl_br (p := x11 = x14) ⟨fun hc154 => ?_, fun hc154 => ?_⟩)
      · have h155 := h153.1 hc154
        refine wpl_sl (n := 2) (pc' := 543) (ls' := [some (.ref 0), some (.ref 1), some (.long x2), none, some (.int x4), some (.int x5), none, none, some (.int x8), none, none, some (.int x11), some (.long x12), none, some (.int x14), some (.int x15), none, some (.int (0 : Int32)), none, none, none, none]) (st' := []) rfl ?_
        exact wpl_lle (ls := [some (.ref 0), some (.ref 1), some (.long x2), none, some (.int x4), none, none, none, some (.int x8), none, none, none, some (.long x12), none, some (.int x14), none, none, some (.int (0 : Int32)), none, none, none, none]) ⟨rfl, rfl, rfl, rfl, rfl, rfl, rfl, rfl, trivial⟩ h155
      · have h156 := h153.2 hc154
        refine wpl_sl (n := 1) (pc' := 539) (ls' := [some (.ref 0), some (.ref 1), some (.long x2), none, some (.int x4), some (.int x5), none, none, some (.int x8), none, none, some (.int x11), some (.long x12), none, some (.int x14), some (.int x15), none, none, none, none, none, none]) (st' := [.int (0 : Int32)]) rfl ?_
        exact wpl_ret rfl rfl rfl ⟨(0 : Int32), rfl, h156⟩
theorem l0_614 (N : Nat) (sg : Nat → Int32) (x2 : Int64) (x4 : Int32)  (Q : Int32 → Wd → Prop) (h : wplI PP QQ (some (N, sg)) 0 lm0 617 [some (.ref 0), some (.ref 1), some (.long x2), none, some (.int x4), none, none, none, none, none, none, none, none, none, none, none, none, some (.int (0 : Int32)), none, none, none, none] [] (W1 s) Q) : wplI PP QQ (some (N, sg)) 0 lm0 614 [some (.ref 0), some (.ref 1), some (.long x2), none, some (.int x4), none, none, none, none, none, none, none, none, none, none, none, none, none, none, none, none, none] [] (W1 s) Q := by
  refine wpl_sl (n := 2) (pc' := 617) (ls' := [some (.ref 0), some (.ref 1), some (.long x2), none, some (.int x4), none, none, none, none, none, none, none, none, none, none, none, none, some (.int (0 : Int32)), none, none, none, none]) (st' := []) rfl ?_
  exact h
theorem l0_543 (N : Nat) (sg : Nat → Int32) (x2 : Int64) (x4 : Int32) (x8 : Int32) (x12 : Int64) (x14 : Int32) (x17 : Int32)  (Q : Int32 → Wd → Prop) (h : ((x17 < x14) → calI PP 24 11 [.ref 0, .int x17] s (fun v161 s160 => ((v161 = ((Int64.toInt32 ((XT.ushrL x12 ((6 : Int32) * x17)) &&& (63 : Int64))) &&& (3 : Int32))) → calI PP 25 11 [.ref 0, .int x17] s160 (fun v167 s166 => ((v167 = (XT.ushr (Int64.toInt32 ((XT.ushrL x12 ((6 : Int32) * x17)) &&& (63 : Int64))) (2 : Int32))) → lalL PP QQ (some (N, sg)) 7 [.long x2, .int ((x8 * (4 : Int32)) + ((Int64.toInt32 ((XT.ushrL x12 ((6 : Int32) * x17)) &&& (63 : Int64))) &&& (3 : Int32))), .int (0 : Int32)] (W1 s166) (fun v173 w172 => ∃ s175, w172 = W1 s175 ∧ (wplI PP QQ (some (N, sg)) 0 lm0 543 [some (.ref 0), some (.ref 1), some (.long v173), none, some (.int x4), none, none, none, some (.int x8), none, none, none, some (.long x12), none, some (.int x14), none, none, some (.int (x17 + (1 : Int32))), none, none, none, none] [] (W1 s175) Q))) ∧ (¬ (v167 = (XT.ushr (Int64.toInt32 ((XT.ushrL x12 ((6 : Int32) * x17)) &&& (63 : Int64))) (2 : Int32))) → Q (0 : Int32) (W1 s166)))) ∧ (¬ (v161 = ((Int64.toInt32 ((XT.ushrL x12 ((6 : Int32) * x17)) &&& (63 : Int64))) &&& (3 : Int32))) → Q (0 : Int32) (W1 s160)))) ∧ (¬ (x17 < x14) → wplI PP QQ (some (N, sg)) 0 lm0 614 [some (.ref 0), some (.ref 1), some (.long x2), none, some (.int x4), none, none, none, none, none, none, none, none, none, none, none, none, none, none, none, none, none] [] (W1 s) Q)) : wplI PP QQ (some (N, sg)) 0 lm0 543 [some (.ref 0), some (.ref 1), some (.long x2), none, some (.int x4), none, none, none, some (.int x8), none, none, none, some (.long x12), none, some (.int x14), none, none, some (.int x17), none, none, none, none] [] (W1 s) Q := by
  refine wpl_sl (n := 2) (pc' := 547) (ls' := [some (.ref 0), some (.ref 1), some (.long x2), none, some (.int x4), none, none, none, some (.int x8), none, none, none, some (.long x12), none, some (.int x14), none, none, some (.int x17), none, none, none, none]) (st' := [.int x14, .int x17]) rfl ?_
  refine wpl_icmp (a := 614) (b := 550) rfl (by decide) rfl rfl (wpl_br (p := x17 < x14) ⟨fun hc157 => ?_, fun hc157 => ?_⟩)
  · have h158 := h.1 hc157
    refine wpl_sl (n := 5) (pc' := 558) (ls' := [some (.ref 0), some (.ref 1), some (.long x2), none, some (.int x4), none, none, none, some (.int x8), none, none, none, some (.long x12), none, some (.int x14), none, none, some (.int x17), none, none, none, none]) (st' := [.long (XT.ushrL x12 ((6 : Int32) * x17))]) rfl ?_
    refine wpl_sl (n := 5) (pc' := 566) (ls' := [some (.ref 0), some (.ref 1), some (.long x2), none, some (.int x4), none, none, none, some (.int x8), none, none, none, some (.long x12), none, some (.int x14), none, none, some (.int x17), some (.int (Int64.toInt32 ((XT.ushrL x12 ((6 : Int32) * x17)) &&& (63 : Int64)))), none, none, none]) (st' := [.ref 1]) rfl ?_
    refine wpl_sl (n := 1) (pc' := 568) (ls' := [some (.ref 0), some (.ref 1), some (.long x2), none, some (.int x4), none, none, none, some (.int x8), none, none, none, some (.long x12), none, some (.int x14), none, none, some (.int x17), some (.int (Int64.toInt32 ((XT.ushrL x12 ((6 : Int32) * x17)) &&& (63 : Int64)))), none, none, none]) (st' := [.int x17, .ref 1]) rfl ?_
    refine wpl_v1 (m' := 24) (me' := cm24) (as := [.int x17]) (r := []) rfl rfl rfl rfl rfl ⟨by decide, (by first | decide | exact Nat.le_of_ble_eq_true rfl), (by first | decide | exact Nat.le_of_ble_eq_true rfl), rfl⟩ (cal_I (calI.mono h158 fun v161 s160 h162 => ?_))
    refine wpl_sl (n := 3) (pc' := 575) (ls' := [some (.ref 0), some (.ref 1), some (.long x2), none, some (.int x4), none, none, none, some (.int x8), none, none, none, some (.long x12), none, some (.int x14), none, none, some (.int x17), some (.int (Int64.toInt32 ((XT.ushrL x12 ((6 : Int32) * x17)) &&& (63 : Int64)))), none, none, none]) (st' := [.int ((Int64.toInt32 ((XT.ushrL x12 ((6 : Int32) * x17)) &&& (63 : Int64))) &&& (3 : Int32)), .int v161]) rfl ?_
    refine wpl_icmp (a := 591) (b := 578) rfl (by decide) rfl rfl (wpl_br (p := v161 = ((Int64.toInt32 ((XT.ushrL x12 ((6 : Int32) * x17)) &&& (63 : Int64))) &&& (3 : Int32))) ⟨fun hc163 => ?_, fun hc163 => ?_⟩)
    · have h164 := h162.1 hc163
      refine wpl_sl (n := 2) (pc' := 581) (ls' := [some (.ref 0), some (.ref 1), some (.long x2), none, some (.int x4), none, none, none, some (.int x8), none, none, none, some (.long x12), none, some (.int x14), none, none, some (.int x17), some (.int (Int64.toInt32 ((XT.ushrL x12 ((6 : Int32) * x17)) &&& (63 : Int64)))), none, none, none]) (st' := [.int x17, .ref 1]) rfl ?_
      refine wpl_v1 (m' := 25) (me' := cm25) (as := [.int x17]) (r := []) rfl rfl rfl rfl rfl ⟨by decide, (by first | decide | exact Nat.le_of_ble_eq_true rfl), (by first | decide | exact Nat.le_of_ble_eq_true rfl), rfl⟩ (cal_I (calI.mono h164 fun v167 s166 h168 => ?_))
      refine wpl_sl (n := 3) (pc' := 588) (ls' := [some (.ref 0), some (.ref 1), some (.long x2), none, some (.int x4), none, none, none, some (.int x8), none, none, none, some (.long x12), none, some (.int x14), none, none, some (.int x17), some (.int (Int64.toInt32 ((XT.ushrL x12 ((6 : Int32) * x17)) &&& (63 : Int64)))), none, none, none]) (st' := [.int (XT.ushr (Int64.toInt32 ((XT.ushrL x12 ((6 : Int32) * x17)) &&& (63 : Int64))) (2 : Int32)), .int v167]) rfl ?_
      refine wpl_icmp (a := 593) (b := 591) rfl (by decide) rfl rfl (wpl_br (p := v167 = (XT.ushr (Int64.toInt32 ((XT.ushrL x12 ((6 : Int32) * x17)) &&& (63 : Int64))) (2 : Int32))) ⟨fun hc169 => ?_, fun hc169 => ?_⟩)
      · have h170 := h168.1 hc169
        refine wpl_sl (n := 5) (pc' := 600) (ls' := [some (.ref 0), some (.ref 1), some (.long x2), none, some (.int x4), none, none, none, some (.int x8), none, none, none, some (.long x12), none, some (.int x14), none, none, some (.int x17), some (.int (Int64.toInt32 ((XT.ushrL x12 ((6 : Int32) * x17)) &&& (63 : Int64)))), none, none, none]) (st' := [.int (Int64.toInt32 ((XT.ushrL x12 ((6 : Int32) * x17)) &&& (63 : Int64))), .int (x8 * (4 : Int32)), .long x2]) rfl ?_
        refine wpl_sl (n := 4) (pc' := 604) (ls' := [some (.ref 0), some (.ref 1), some (.long x2), none, some (.int x4), none, none, none, some (.int x8), none, none, none, some (.long x12), none, some (.int x14), none, none, some (.int x17), some (.int (Int64.toInt32 ((XT.ushrL x12 ((6 : Int32) * x17)) &&& (63 : Int64)))), none, none, none]) (st' := [.int (0 : Int32), .int ((x8 * (4 : Int32)) + ((Int64.toInt32 ((XT.ushrL x12 ((6 : Int32) * x17)) &&& (63 : Int64))) &&& (3 : Int32))), .long x2]) rfl ?_
        refine wpl_stat (m' := 7) (me' := lm7) (as := [.long x2, .int ((x8 * (4 : Int32)) + ((Int64.toInt32 ((XT.ushrL x12 ((6 : Int32) * x17)) &&& (63 : Int64))) &&& (3 : Int32))), .int (0 : Int32)]) (r := []) rfl rfl rfl rfl rfl ⟨(by first | decide | exact Nat.le_of_ble_eq_true rfl), (by first | decide | exact Nat.le_of_ble_eq_true rfl), (by first | decide | exact Nat.le_of_ble_eq_true rfl), (by first | decide | exact Nat.le_of_ble_eq_true rfl), rfl⟩ (lal_L (lalL.mono h170 fun v173 w172 hh => ?_))
        obtain ⟨s175, rfl, h174⟩ := hh
        refine wpl_sl (n := 3) (pc' := 543) (ls' := [some (.ref 0), some (.ref 1), some (.long v173), none, some (.int x4), none, none, none, some (.int x8), none, none, none, some (.long x12), none, some (.int x14), none, none, some (.int (x17 + (1 : Int32))), some (.int (Int64.toInt32 ((XT.ushrL x12 ((6 : Int32) * x17)) &&& (63 : Int64)))), none, none, none]) (st' := []) rfl ?_
        exact wpl_lle (ls := [some (.ref 0), some (.ref 1), some (.long v173), none, some (.int x4), none, none, none, some (.int x8), none, none, none, some (.long x12), none, some (.int x14), none, none, some (.int (x17 + (1 : Int32))), none, none, none, none]) ⟨rfl, rfl, rfl, rfl, rfl, rfl, rfl, rfl, trivial⟩ h174
      · have h171 := h168.2 hc169
        refine wpl_sl (n := 1) (pc' := 592) (ls' := [some (.ref 0), some (.ref 1), some (.long x2), none, some (.int x4), none, none, none, some (.int x8), none, none, none, some (.long x12), none, some (.int x14), none, none, some (.int x17), some (.int (Int64.toInt32 ((XT.ushrL x12 ((6 : Int32) * x17)) &&& (63 : Int64)))), none, none, none]) (st' := [.int (0 : Int32)]) rfl ?_
        exact wpl_ret rfl rfl rfl ⟨(0 : Int32), rfl, h171⟩
    · have h165 := h162.2 hc163
      refine wpl_sl (n := 1) (pc' := 592) (ls' := [some (.ref 0), some (.ref 1), some (.long x2), none, some (.int x4), none, none, none, some (.int x8), none, none, none, some (.long x12), none, some (.int x14), none, none, some (.int x17), some (.int (Int64.toInt32 ((XT.ushrL x12 ((6 : Int32) * x17)) &&& (63 : Int64)))), none, none, none]) (st' := [.int (0 : Int32)]) rfl ?_
      exact wpl_ret rfl rfl rfl ⟨(0 : Int32), rfl, h165⟩
  · have h159 := h.2 hc157
    exact wpl_lle (ls := [some (.ref 0), some (.ref 1), some (.long x2), none, some (.int x4), none, none, none, none, none, none, none, none, none, none, none, none, none, none, none, none, none]) ⟨rfl, rfl, rfl, rfl, trivial⟩ h159
theorem l0_617 (N : Nat) (sg : Nat → Int32) (x2 : Int64) (x4 : Int32) (x17 : Int32)  (Q : Int32 → Wd → Prop) (h : ((x17 < (2 : Int32)) → wplI PP QQ (some (N, sg)) 0 lm0 629 [some (.ref 0), some (.ref 1), some (.long x2), none, some (.int x4), none, none, none, none, none, none, none, none, none, none, none, none, some (.int x17), some (.int (0 : Int32)), some (.int (0 : Int32)), none, none] [] (W1 s) Q) ∧ (¬ (x17 < (2 : Int32)) → wplI PP QQ (some (N, sg)) 0 lm0 26 [some (.ref 0), some (.ref 1), some (.long x2), none, some (.int (x4 + (3 : Int32))), none, none, none, none, none, none, none, none, none, none, none, none, none, none, none, none, none] [] (W1 s) Q)) : wplI PP QQ (some (N, sg)) 0 lm0 617 [some (.ref 0), some (.ref 1), some (.long x2), none, some (.int x4), none, none, none, none, none, none, none, none, none, none, none, none, some (.int x17), none, none, none, none] [] (W1 s) Q := by
  refine wpl_sl (n := 2) (pc' := 620) (ls' := [some (.ref 0), some (.ref 1), some (.long x2), none, some (.int x4), none, none, none, none, none, none, none, none, none, none, none, none, some (.int x17), none, none, none, none]) (st' := [.int (2 : Int32), .int x17]) rfl ?_
  refine wpl_icmp (a := 726) (b := 623) rfl (by decide) rfl rfl (wpl_br (p := x17 < (2 : Int32)) ⟨fun hc176 => ?_, fun hc176 => ?_⟩)
  · have h177 := h.1 hc176
    refine wpl_sl (n := 4) (pc' := 629) (ls' := [some (.ref 0), some (.ref 1), some (.long x2), none, some (.int x4), none, none, none, none, none, none, none, none, none, none, none, none, some (.int x17), some (.int (0 : Int32)), some (.int (0 : Int32)), none, none]) (st' := []) rfl ?_
    exact h177
  · have h178 := h.2 hc176
    refine wpl_sl (n := 2) (pc' := 26) (ls' := [some (.ref 0), some (.ref 1), some (.long x2), none, some (.int (x4 + (3 : Int32))), none, none, none, none, none, none, none, none, none, none, none, none, some (.int x17), none, none, none, none]) (st' := []) rfl ?_
    exact wpl_lle (ls := [some (.ref 0), some (.ref 1), some (.long x2), none, some (.int (x4 + (3 : Int32))), none, none, none, none, none, none, none, none, none, none, none, none, none, none, none, none, none]) ⟨rfl, rfl, rfl, rfl, trivial⟩ h178
theorem l0_629 (N : Nat) (sg : Nat → Int32) (x2 : Int64) (x4 : Int32) (x17 : Int32) (x18 : Int32) (x19 : Int32)  (Q : Int32 → Wd → Prop) (h : ((x19 < (4 : Int32)) → calI PP 28 11 [.ref 0, .int x17, .int x19] s (fun v183 s182 => lalI PP QQ (some (N, sg)) 4 [.ref 1, .int x19] (W1 s182) (fun v186 w185 => ∃ s188, w185 = W1 s188 ∧ (lalI PP QQ (some (N, sg)) 6 [.long x2, .int ((x17 * (4 : Int32)) + x19)] (W1 s188) (fun v190 w189 => ∃ s192, w189 = W1 s192 ∧ (lalI PP QQ (some (N, sg)) 8 [.int v183, .int v186, .int v190] (W1 s192) (fun v194 w193 => ∃ s196, w193 = W1 s196 ∧ (calI PP 29 11 [.ref 0, .int x17, .int x19] s196 (fun v198 s197 => ∀ m200, m200 = (if v183 < (0 : Int32) then (-1 : Int32) else v194) → (((v198 = m200) → ∀ m206, m206 = (if v194 = (0 : Int32) then x18 else (x18 + (1 : Int32))) → (wplI PP QQ (some (N, sg)) 0 lm0 629 [some (.ref 0), some (.ref 1), some (.long x2), none, some (.int x4), none, none, none, none, none, none, none, none, none, none, none, none, some (.int x17), some (.int m206), some (.int (x19 + (1 : Int32))), none, none] [] (W1 s197) Q)) ∧ (¬ (v198 = m200) → Q (0 : Int32) (W1 s197)))))))))))) ∧ (¬ (x19 < (4 : Int32)) → calI PP 30 11 [.ref 0, .int x17] s (fun v212 s211 => ((v212 = x18) → wplI PP QQ (some (N, sg)) 0 lm0 617 [some (.ref 0), some (.ref 1), some (.long x2), none, some (.int x4), none, none, none, none, none, none, none, none, none, none, none, none, some (.int (x17 + (1 : Int32))), none, none, none, none] [] (W1 s211) Q) ∧ (¬ (v212 = x18) → Q (0 : Int32) (W1 s211))))) : wplI PP QQ (some (N, sg)) 0 lm0 629 [some (.ref 0), some (.ref 1), some (.long x2), none, some (.int x4), none, none, none, none, none, none, none, none, none, none, none, none, some (.int x17), some (.int x18), some (.int x19), none, none] [] (W1 s) Q := by
  refine wpl_sl (n := 2) (pc' := 632) (ls' := [some (.ref 0), some (.ref 1), some (.long x2), none, some (.int x4), none, none, none, none, none, none, none, none, none, none, none, none, some (.int x17), some (.int x18), some (.int x19), none, none]) (st' := [.int (4 : Int32), .int x19]) rfl ?_
  refine wpl_icmp (a := 707) (b := 635) rfl (by decide) rfl rfl (wpl_br (p := x19 < (4 : Int32)) ⟨fun hc179 => ?_, fun hc179 => ?_⟩)
  · have h180 := h.1 hc179
    refine wpl_sl (n := 3) (pc' := 640) (ls' := [some (.ref 0), some (.ref 1), some (.long x2), none, some (.int x4), none, none, none, none, none, none, none, none, none, none, none, none, some (.int x17), some (.int x18), some (.int x19), none, none]) (st' := [.int x19, .int x17, .ref 1]) rfl ?_
    refine wpl_v1 (m' := 28) (me' := cm28) (as := [.int x17, .int x19]) (r := []) rfl rfl rfl rfl rfl ⟨by decide, (by first | decide | exact Nat.le_of_ble_eq_true rfl), (by first | decide | exact Nat.le_of_ble_eq_true rfl), rfl⟩ (cal_I (calI.mono h180 fun v183 s182 h184 => ?_))
    refine wpl_sl (n := 4) (pc' := 650) (ls' := [some (.ref 0), some (.ref 1), some (.long x2), none, some (.int x4), none, none, none, none, none, none, none, none, none, none, none, none, some (.int x17), some (.int x18), some (.int x19), some (.int v183), none]) (st' := [.int x19, .ref 1, .int v183]) rfl ?_
    refine wpl_stat (m' := 4) (me' := lm4) (as := [.ref 1, .int x19]) (r := [.int v183]) rfl rfl rfl rfl rfl ⟨(by first | decide | exact Nat.le_of_ble_eq_true rfl), (by first | decide | exact Nat.le_of_ble_eq_true rfl), (by first | decide | exact Nat.le_of_ble_eq_true rfl), (by first | decide | exact Nat.le_of_ble_eq_true rfl), rfl⟩ (lal_I (lalI.mono h184 fun v186 w185 hh => ?_))
    obtain ⟨s188, rfl, h187⟩ := hh
    refine wpl_sl (n := 6) (pc' := 661) (ls' := [some (.ref 0), some (.ref 1), some (.long x2), none, some (.int x4), none, none, none, none, none, none, none, none, none, none, none, none, some (.int x17), some (.int x18), some (.int x19), some (.int v183), none]) (st' := [.int ((x17 * (4 : Int32)) + x19), .long x2, .int v186, .int v183]) rfl ?_
    refine wpl_stat (m' := 6) (me' := lm6) (as := [.long x2, .int ((x17 * (4 : Int32)) + x19)]) (r := [.int v186, .int v183]) rfl rfl rfl rfl rfl ⟨(by first | decide | exact Nat.le_of_ble_eq_true rfl), (by first | decide | exact Nat.le_of_ble_eq_true rfl), (by first | decide | exact Nat.le_of_ble_eq_true rfl), (by first | decide | exact Nat.le_of_ble_eq_true rfl), rfl⟩ (lal_I (lalI.mono h187 fun v190 w189 hh => ?_))
    obtain ⟨s192, rfl, h191⟩ := hh
    refine wpl_stat (m' := 8) (me' := lm8) (as := [.int v183, .int v186, .int v190]) (r := []) rfl rfl rfl rfl rfl ⟨(by first | decide | exact Nat.le_of_ble_eq_true rfl), (by first | decide | exact Nat.le_of_ble_eq_true rfl), (by first | decide | exact Nat.le_of_ble_eq_true rfl), (by first | decide | exact Nat.le_of_ble_eq_true rfl), rfl⟩ (lal_I (lalI.mono h191 fun v194 w193 hh => ?_))
    obtain ⟨s196, rfl, h195⟩ := hh
    refine wpl_sl (n := 4) (pc' := 674) (ls' := [some (.ref 0), some (.ref 1), some (.long x2), none, some (.int x4), none, none, none, none, none, none, none, none, none, none, none, none, some (.int x17), some (.int x18), some (.int x19), some (.int v183), some (.int v194)]) (st' := [.int x19, .int x17, .ref 1]) rfl ?_
    refine wpl_v1 (m' := 29) (me' := cm29) (as := [.int x17, .int x19]) (r := []) rfl rfl rfl rfl rfl ⟨by decide, (by first | decide | exact Nat.le_of_ble_eq_true rfl), (by first | decide | exact Nat.le_of_ble_eq_true rfl), rfl⟩ (cal_I (calI.mono h195 fun v198 s197 h199 => ?_))
    refine wpl_sl (n := 1) (pc' := 679) (ls' := [some (.ref 0), some (.ref 1), some (.long x2), none, some (.int x4), none, none, none, none, none, none, none, none, none, none, none, none, some (.int x17), some (.int x18), some (.int x19), some (.int v183), some (.int v194)]) (st' := [.int v183, .int v198]) rfl ?_
    have hm201 : ∀ m200, m200 = (if v183 < (0 : Int32) then (-1 : Int32) else v194) → wplI PP QQ (some (N, sg)) 0 lm0 688 [some (.ref 0), some (.ref 1), some (.long x2), none, some (.int x4), none, none, none, none, none, none, none, none, none, none, none, none, some (.int x17), some (.int x18), some (.int x19), some (.int v183), some (.int v194)] [.int m200, .int v198] (W1 s197) Q := by
      intro m200 em200
      have h202 := h199 m200 em200
      refine wpl_icmp (a := 693) (b := 691) rfl (by decide) rfl rfl (wpl_br (p := v198 = m200) ⟨fun hc203 => ?_, fun hc203 => ?_⟩)
      · have h204 := h202.1 hc203
        refine wpl_sl (n := 1) (pc' := 695) (ls' := [some (.ref 0), some (.ref 1), some (.long x2), none, some (.int x4), none, none, none, none, none, none, none, none, none, none, none, none, some (.int x17), some (.int x18), some (.int x19), some (.int v183), some (.int v194)]) (st' := [.int v194]) rfl ?_
        have hm207 : ∀ m206, m206 = (if v194 = (0 : Int32) then x18 else (x18 + (1 : Int32))) → wplI PP QQ (some (N, sg)) 0 lm0 701 [some (.ref 0), some (.ref 1), some (.long x2), none, some (.int x4), none, none, none, none, none, none, none, none, none, none, none, none, some (.int x17), some (.int m206), some (.int x19), some (.int v183), some (.int v194)] [] (W1 s197) Q := by
          intro m206 em206
          have h208 := h204 m206 em206
          refine wpl_sl (n := 2) (pc' := 629) (ls' := [some (.ref 0), some (.ref 1), some (.long x2), none, some (.int x4), none, none, none, none, none, none, none, none, none, none, none, none, some (.int x17), some (.int m206), some (.int (x19 + (1 : Int32))), some (.int v183), some (.int v194)]) (st' := []) rfl ?_
          exact wpl_lle (ls := [some (.ref 0), some (.ref 1), some (.long x2), none, some (.int x4), none, none, none, none, none, none, none, none, none, none, none, none, some (.int x17), some (.int m206), some (.int (x19 + (1 : Int32))), none, none]) ⟨rfl, rfl, rfl, rfl, rfl, rfl, rfl, trivial⟩ h208
        refine wpl_if (a := 701) (b := 698) rfl (by decide) rfl rfl (wpl_br (p := v194 = (0 : Int32)) ⟨fun hc209 => ?_, fun hc209 => ?_⟩)
        · first | exact hm207 _ (by simp only [if_pos hc209]) | exact wpl_lle (by repeat (first | exact trivial | refine ⟨rfl, ?_⟩)) (hm207 _ (by simp only [if_pos hc209]))
        · refine wpl_sl (n := 1) (pc' := 701) (ls' := [some (.ref 0), some (.ref 1), some (.long x2), none, some (.int x4), none, none, none, none, none, none, none, none, none, none, none, none, some (.int x17), some (.int (x18 + (1 : Int32))), some (.int x19), some (.int v183), some (.int v194)]) (st' := []) rfl ?_
          first | exact hm207 _ (by simp only [if_neg hc209]) | exact wpl_lle (by repeat (first | exact trivial | refine ⟨rfl, ?_⟩)) (hm207 _ (by simp only [if_neg hc209]))
      · have h205 := h202.2 hc203
        refine wpl_sl (n := 1) (pc' := 692) (ls' := [some (.ref 0), some (.ref 1), some (.long x2), none, some (.int x4), none, none, none, none, none, none, none, none, none, none, none, none, some (.int x17), some (.int x18), some (.int x19), some (.int v183), some (.int v194)]) (st' := [.int (0 : Int32)]) rfl ?_
        exact wpl_ret rfl rfl rfl ⟨(0 : Int32), rfl, h205⟩
    refine wpl_if (a := 686) (b := 682) rfl (by decide) rfl rfl (wpl_br (p := v183 < (0 : Int32)) ⟨fun hc210 => ?_, fun hc210 => ?_⟩)
    · refine wpl_sl (n := 2) (pc' := 688) (ls' := [some (.ref 0), some (.ref 1), some (.long x2), none, some (.int x4), none, none, none, none, none, none, none, none, none, none, none, none, some (.int x17), some (.int x18), some (.int x19), some (.int v183), some (.int v194)]) (st' := [.int (-1 : Int32), .int v198]) rfl ?_
      first | exact hm201 _ (by simp only [if_pos hc210]) | exact wpl_lle (by repeat (first | exact trivial | refine ⟨rfl, ?_⟩)) (hm201 _ (by simp only [if_pos hc210]))
    · refine wpl_sl (n := 1) (pc' := 688) (ls' := [some (.ref 0), some (.ref 1), some (.long x2), none, some (.int x4), none, none, none, none, none, none, none, none, none, none, none, none, some (.int x17), some (.int x18), some (.int x19), some (.int v183), some (.int v194)]) (st' := [.int v194, .int v198]) rfl ?_
      first | exact hm201 _ (by simp only [if_neg hc210]) | exact wpl_lle (by repeat (first | exact trivial | refine ⟨rfl, ?_⟩)) (hm201 _ (by simp only [if_neg hc210]))
  · have h181 := h.2 hc179
    refine wpl_sl (n := 2) (pc' := 710) (ls' := [some (.ref 0), some (.ref 1), some (.long x2), none, some (.int x4), none, none, none, none, none, none, none, none, none, none, none, none, some (.int x17), some (.int x18), some (.int x19), none, none]) (st' := [.int x17, .ref 1]) rfl ?_
    refine wpl_v1 (m' := 30) (me' := cm30) (as := [.int x17]) (r := []) rfl rfl rfl rfl rfl ⟨by decide, (by first | decide | exact Nat.le_of_ble_eq_true rfl), (by first | decide | exact Nat.le_of_ble_eq_true rfl), rfl⟩ (cal_I (calI.mono h181 fun v212 s211 h213 => ?_))
    refine wpl_sl (n := 1) (pc' := 715) (ls' := [some (.ref 0), some (.ref 1), some (.long x2), none, some (.int x4), none, none, none, none, none, none, none, none, none, none, none, none, some (.int x17), some (.int x18), some (.int x19), none, none]) (st' := [.int x18, .int v212]) rfl ?_
    refine wpl_icmp (a := 720) (b := 718) rfl (by decide) rfl rfl (wpl_br (p := v212 = x18) ⟨fun hc214 => ?_, fun hc214 => ?_⟩)
    · have h215 := h213.1 hc214
      refine wpl_sl (n := 2) (pc' := 617) (ls' := [some (.ref 0), some (.ref 1), some (.long x2), none, some (.int x4), none, none, none, none, none, none, none, none, none, none, none, none, some (.int (x17 + (1 : Int32))), some (.int x18), some (.int x19), none, none]) (st' := []) rfl ?_
      exact wpl_lle (ls := [some (.ref 0), some (.ref 1), some (.long x2), none, some (.int x4), none, none, none, none, none, none, none, none, none, none, none, none, some (.int (x17 + (1 : Int32))), none, none, none, none]) ⟨rfl, rfl, rfl, rfl, rfl, trivial⟩ h215
    · have h216 := h213.2 hc214
      refine wpl_sl (n := 1) (pc' := 719) (ls' := [some (.ref 0), some (.ref 1), some (.long x2), none, some (.int x4), none, none, none, none, none, none, none, none, none, none, none, none, some (.int x17), some (.int x18), some (.int x19), none, none]) (st' := [.int (0 : Int32)]) rfl ?_
      exact wpl_ret rfl rfl rfl ⟨(0 : Int32), rfl, h216⟩
/-! bits of ints and longs -/
def own_bt (x : Int32) (j : Nat) : Bool := x.toBitVec.getLsbD j
def own_bl (x : Int64) (j : Nat) : Bool := x.toBitVec.getLsbD j
theorem own_i32 (i : Int32) (h0 : 0 ≤ i.toInt) : i = Int32.ofNat (ix i) := by
  have k := ix_int h0
  have r := rng32 i
  rw [i32_eq, Int32.toInt_ofNat_of_lt (by omega)]; omega
theorem own_sh31 (i : Int32) (h0 : 0 ≤ i.toInt) (h1 : i.toInt < 32) : (i &&& 31).toBitVec.smod 32 = BitVec.ofNat 32 (ix i) ∧ ix i < 32 := by
  have k := ix_int h0
  have hn : ix i < 32 := by omega
  have key : ∀ n : Fin 32, (Int32.ofNat n.val &&& 31).toBitVec.smod 32 = BitVec.ofNat 32 n.val := by decide
  have := key ⟨ix i, hn⟩
  rw [← own_i32 i h0] at this
  exact ⟨this, hn⟩
theorem own_bt_one (y : Int32) : (y &&& 1 = 0) ↔ own_bt y 0 = false := by
  unfold own_bt
  constructor
  · intro h
    have := congrArg (fun z => z.toBitVec.getLsbD 0) h
    simpa using this
  · intro h
    apply Int32.toBitVec_inj.mp
    apply BitVec.eq_of_getLsbD_eq
    intro j hj
    rw [Int32.toBitVec_and, BitVec.getLsbD_and]
    have e : (1 : Int32).toBitVec = 1#32 := by decide
    have z : (0 : Int32).toBitVec = 0#32 := by decide
    rw [e, z, BitVec.getLsbD_one]
    by_cases q : j = 0
    · subst q; rw [h, Bool.false_and]; simp
    · simp [q]
theorem own_bt_sar (x i : Int32) (h0 : 0 ≤ i.toInt) (h1 : i.toInt < 32) : own_bt (x >>> (i &&& 31)) 0 = own_bt x (ix i) := by
  obtain ⟨e, hn⟩ := own_sh31 i h0 h1
  unfold own_bt
  rw [Int32.toBitVec_shiftRight, e, BitVec.sshiftRight_eq', BitVec.getLsbD_sshiftRight]
  have e2 : (BitVec.ofNat 32 (ix i)).toNat = ix i := by simp; omega
  rw [e2]; simp [hn]
theorem own_bt_shr (x i : Int32) (h0 : 0 ≤ i.toInt) (h1 : i.toInt < 32) : ((x >>> (i &&& 31)) &&& 1 = 0) ↔ own_bt x (ix i) = false := by
  rw [own_bt_one, own_bt_sar x i h0 h1]
theorem own_bt_shl (i : Int32) (h0 : 0 ≤ i.toInt) (h1 : i.toInt < 32) (j : Nat) (hj : j < 32) : own_bt (1 <<< (i &&& 31)) j = decide (j = ix i) := by
  obtain ⟨e, hn⟩ := own_sh31 i h0 h1
  unfold own_bt
  have e2 : (BitVec.ofNat 32 (ix i)).toNat = ix i := by simp; omega
  have e1 : (1 : Int32).toBitVec = 1#32 := by decide
  rw [Int32.toBitVec_shiftLeft, e, BitVec.shiftLeft_eq', e2, BitVec.getLsbD_shiftLeft, e1, BitVec.getLsbD_one]
  by_cases q : j = ix i
  · subst q; simp [hj]
  · by_cases l : j < ix i
    · simp [l, q]
    · have : ¬ (j - ix i = 0) := by omega
      simp [q, this]
theorem own_bt_or (x i : Int32) (h0 : 0 ≤ i.toInt) (h1 : i.toInt < 32) (j : Nat) (hj : j < 32) : own_bt (x ||| (1 <<< (i &&& 31))) j = (own_bt x j || decide (j = ix i)) := by
  rw [← own_bt_shl i h0 h1 j hj]
  simp [own_bt]
theorem own_bt_neg (x : Int32) (j : Nat) (hj : j < 32) : own_bt (x ^^^ (-1)) j = !own_bt x j := by
  have e : (-1 : Int32).toBitVec = BitVec.allOnes 32 := by decide
  simp [own_bt, e, hj]
theorem own_bt_and (x y : Int32) (j : Nat) : own_bt (x &&& y) j = (own_bt x j && own_bt y j) := by simp [own_bt]
theorem own_bt_clr (x i : Int32) (h0 : 0 ≤ i.toInt) (h1 : i.toInt < 32) (j : Nat) (hj : j < 32) : own_bt (x &&& ((1 <<< (i &&& 31)) ^^^ (-1))) j = (own_bt x j && !decide (j = ix i)) := by
  rw [own_bt_and, own_bt_neg _ _ hj, own_bt_shl i h0 h1 j hj]
theorem own_bt_zero (x : Int32) : x = 0 ↔ ∀ j, j < 32 → own_bt x j = false := by
  constructor
  · intro h j _; rw [h]; simp [own_bt]
  · intro h
    apply Int32.toBitVec_inj.mp
    apply BitVec.eq_of_getLsbD_eq
    intro j hj
    have := h j hj
    have z : (0 : Int32).toBitVec = 0#32 := by decide
    rw [z]; simpa [own_bt] using this
theorem own_bt_0 (j : Nat) : own_bt 0 j = false := by simp [own_bt]
theorem own_bt_tst (x i : Int32) (h0 : 0 ≤ i.toInt) (h1 : i.toInt < 32) : (x &&& (1 <<< (i &&& 31)) = 0) ↔ own_bt x (ix i) = false := by
  have k := ix_int h0
  rw [own_bt_zero]
  constructor
  · intro h
    have := h (ix i) (by omega)
    rw [own_bt_and, own_bt_shl i h0 h1 _ (by omega)] at this
    simpa using this
  · intro h j hj
    rw [own_bt_and, own_bt_shl i h0 h1 _ hj]
    by_cases z : j = ix i
    · rw [z, h]; rfl
    · simp [z]
theorem own_bt_ext {x y : Int32} (h : ∀ j, j < 32 → own_bt x j = own_bt y j) : x = y :=
  Int32.toBitVec_inj.mp (BitVec.eq_of_getLsbD_eq h)
theorem own_bt_s16 (y : Int32) (j : Nat) (hj : j < 16) : own_bt (y <<< ((16 : Int32) &&& 31)) j = false := by
  have e : ((16 : Int32) &&& 31).toBitVec.smod 32 = 16#32 := by decide
  have e2 : (16#32).toNat = 16 := by decide
  unfold own_bt
  rw [Int32.toBitVec_shiftLeft, e, BitVec.shiftLeft_eq', e2, BitVec.getLsbD_shiftLeft]
  simp [hj]
theorem own_bt_15 (j : Nat) (hj : j < 32) : own_bt 15 j = decide (j < 4) := by
  have b : ∀ j : Fin 32, own_bt 15 j.val = decide (j.val < 4) := by decide
  exact b ⟨j, hj⟩
theorem own_bt_64k (j : Nat) (hj : j < 32) : own_bt 65535 j = decide (j < 16) := by
  have b : ∀ j : Fin 32, own_bt 65535 j.val = decide (j.val < 16) := by decide
  exact b ⟨j, hj⟩
/-! nibbles of a long -/
theorem own_sh63 (i : Int32) (h0 : 0 ≤ i.toInt) (h1 : i.toInt < 16) : ((4 * i).toInt64 &&& 63).toBitVec.smod 64 = BitVec.ofNat 64 (4 * ix i) ∧ ((4 * i).toInt64.toUInt64 &&& Int64.toUInt64 63).toBitVec % 64 = BitVec.ofNat 64 (4 * ix i) ∧ ix i < 16 := by
  have k := ix_int h0
  have hn : ix i < 16 := by omega
  have key : ∀ n : Fin 16, ((4 * Int32.ofNat n.val).toInt64 &&& 63).toBitVec.smod 64 = BitVec.ofNat 64 (4 * n.val) ∧ ((4 * Int32.ofNat n.val).toInt64.toUInt64 &&& Int64.toUInt64 63).toBitVec % 64 = BitVec.ofNat 64 (4 * n.val) := by decide
  have := key ⟨ix i, hn⟩
  rw [← own_i32 i h0] at this
  exact ⟨this.1, this.2, hn⟩
def own_nb (x : Int64) (i : Int32) : Int64 := Jvm.Free.XT.ushrL x (4 * i) &&& 15
theorem own_nb_bit (x : Int64) (i : Int32) (h0 : 0 ≤ i.toInt) (h1 : i.toInt < 16) (j : Nat) (hj : j < 64) : own_bl (own_nb x i) j = (own_bl x (4 * ix i + j) && decide (j < 4)) := by
  obtain ⟨_, e, hn⟩ := own_sh63 i h0 h1
  have e2 : (BitVec.ofNat 64 (4 * ix i)).toNat = 4 * ix i := by simp; omega
  have f : (15 : Int64).toBitVec = 15#64 := by decide
  have b15 : ∀ j : Fin 64, (15#64).getLsbD j.val = decide (j.val < 4) := by decide
  have c15 := b15 ⟨j, hj⟩
  simp only at c15
  unfold own_bl own_nb Jvm.Free.XT.ushrL
  rw [Int64.toBitVec_and, BitVec.getLsbD_and, f, c15]
  have g : ((x.toUInt64 >>> ((4 * i).toInt64.toUInt64 &&& Int64.toUInt64 63)).toInt64).toBitVec = x.toBitVec >>> (4 * ix i) := by
    show (x.toUInt64 >>> ((4 * i).toInt64.toUInt64 &&& Int64.toUInt64 63)).toBitVec = _
    rw [UInt64.toBitVec_shiftRight, e, BitVec.ushiftRight_eq', e2]
    rfl
  rw [g, BitVec.getLsbD_ushiftRight]
theorem own_bl_ext {x y : Int64} (h : ∀ j, j < 64 → own_bl x j = own_bl y j) : x = y :=
  Int64.toBitVec_inj.mp (BitVec.eq_of_getLsbD_eq h)
theorem own_bl_sml (v : Int32) (h0 : 0 ≤ v.toInt) (h1 : v.toInt < 16) (j : Nat) : 4 ≤ j → own_bl (Int32.toInt64 v) j = false := by
  intro hj
  have k := ix_int h0
  have hn : ix v < 16 := by omega
  have key : ∀ n : Fin 16, (Int32.ofNat n.val).toInt64.toBitVec = BitVec.ofNat 64 n.val := by decide
  have := key ⟨ix v, hn⟩
  rw [← own_i32 v h0] at this
  unfold own_bl
  rw [this]
  simp only [BitVec.getLsbD_ofNat]
  have : (ix v).testBit j = false := Nat.testBit_lt_two_pow (Nat.lt_of_lt_of_le hn (by
    have : 2 ^ 4 ≤ 2 ^ j := Nat.pow_le_pow_right (by decide) hj
    omega))
  simp [this]
/-- nibble i set to v -/
def own_ns4 (x : Int64) (i v : Int32) : Int64 := (x &&& (((15 : Int64) <<< ((4 * i).toInt64 &&& 63)) ^^^ (-1 : Int64))) ||| (Int32.toInt64 v <<< ((4 * i).toInt64 &&& 63))
theorem own_ns4_bit (x : Int64) (i v : Int32) (h0 : 0 ≤ i.toInt) (h1 : i.toInt < 16) (v0 : 0 ≤ v.toInt) (v1 : v.toInt < 16) (j : Nat) (hj : j < 64) : own_bl (own_ns4 x i v) j = if 4 * ix i ≤ j ∧ j < 4 * ix i + 4 then own_bl (Int32.toInt64 v) (j - 4 * ix i) else own_bl x j := by
  obtain ⟨e, _, hn⟩ := own_sh63 i h0 h1
  have e2 : (BitVec.ofNat 64 (4 * ix i)).toNat = 4 * ix i := by simp; omega
  have f : (15 : Int64).toBitVec = 15#64 := by decide
  have m1 : (-1 : Int64).toBitVec = BitVec.allOnes 64 := by decide
  have b15 : ∀ j : Nat, j < 64 → (15#64).getLsbD j = decide (j < 4) := fun j hj => by
    have b : ∀ j : Fin 64, (15#64).getLsbD j.val = decide (j.val < 4) := by decide
    exact b ⟨j, hj⟩
  have sml := own_bl_sml v v0 v1
  unfold own_bl at *
  unfold own_ns4
  rw [Int64.toBitVec_or, Int64.toBitVec_and, Int64.toBitVec_xor, Int64.toBitVec_shiftLeft, Int64.toBitVec_shiftLeft, e, BitVec.shiftLeft_eq', BitVec.shiftLeft_eq', e2, f, m1]
  rw [BitVec.getLsbD_or, BitVec.getLsbD_and, BitVec.getLsbD_xor, BitVec.getLsbD_shiftLeft, BitVec.getLsbD_shiftLeft, BitVec.getLsbD_allOnes, b15 _ (by omega)]
  by_cases l : j < 4 * ix i
  · rw [if_neg (by omega)]; simp [l, hj]
  · by_cases u : j < 4 * ix i + 4
    · rw [if_pos (by omega)]
      have : j - 4 * ix i < 4 := by omega
      simp [l, hj, this]
    · rw [if_neg (by omega), sml _ (by omega)]
      have : ¬ (j - 4 * ix i < 4) := by omega
      simp [hj, this]
theorem own_nb_set (x : Int64) (i v : Int32) (h0 : 0 ≤ i.toInt) (h1 : i.toInt < 16) (v0 : 0 ≤ v.toInt) (v1 : v.toInt < 16) (k : Int32) (k0 : 0 ≤ k.toInt) (k1 : k.toInt < 16) : own_nb (own_ns4 x i v) k = if k = i then Int32.toInt64 v else own_nb x k := by
  have ki := ix_int h0
  have kk := ix_int k0
  apply own_bl_ext
  intro j hj
  rw [own_nb_bit _ _ k0 k1 j hj]
  by_cases q : j < 4
  · rw [own_ns4_bit x i v h0 h1 v0 v1 _ (by omega)]
    by_cases z : k = i
    · rw [if_pos z]; subst z; rw [if_pos (by omega), Nat.add_sub_cancel_left]; simp [q]
    · rw [if_neg z, own_nb_bit _ _ k0 k1 j hj]
      rw [i32_eq] at z
      rw [if_neg (by omega)]
  · have : decide (j < 4) = false := by simp [q]
    rw [this, Bool.and_false]
    by_cases z : k = i
    · rw [if_pos z, own_bl_sml v v0 v1 j (by omega)]
    · rw [if_neg z, own_nb_bit _ _ k0 k1 j hj, this, Bool.and_false]

/-! single bits of a long -/
theorem own_sh64 (i : Int32) (h0 : 0 ≤ i.toInt) (h1 : i.toInt < 64) : (i.toInt64 &&& 63).toBitVec.smod 64 = BitVec.ofNat 64 (ix i) ∧ (i.toInt64.toUInt64 &&& Int64.toUInt64 63).toBitVec % 64 = BitVec.ofNat 64 (ix i) ∧ ix i < 64 := by
  have k := ix_int h0
  have hn : ix i < 64 := by omega
  have key : ∀ n : Fin 64, ((Int32.ofNat n.val).toInt64 &&& 63).toBitVec.smod 64 = BitVec.ofNat 64 n.val ∧ ((Int32.ofNat n.val).toInt64.toUInt64 &&& Int64.toUInt64 63).toBitVec % 64 = BitVec.ofNat 64 n.val := by decide
  have := key ⟨ix i, hn⟩
  rw [← own_i32 i h0] at this
  exact ⟨this.1, this.2, hn⟩
theorem own_bl_ushr (x : Int64) (i : Int32) (h0 : 0 ≤ i.toInt) (h1 : i.toInt < 64) (j : Nat) : own_bl (Jvm.Free.XT.ushrL x i) j = own_bl x (ix i + j) := by
  obtain ⟨_, e, hn⟩ := own_sh64 i h0 h1
  have e2 : (BitVec.ofNat 64 (ix i)).toNat = ix i := by simp; omega
  unfold own_bl Jvm.Free.XT.ushrL
  have g : ((x.toUInt64 >>> (i.toInt64.toUInt64 &&& Int64.toUInt64 63)).toInt64).toBitVec = x.toBitVec >>> (ix i) := by
    show (x.toUInt64 >>> (i.toInt64.toUInt64 &&& Int64.toUInt64 63)).toBitVec = _
    rw [UInt64.toBitVec_shiftRight, e, BitVec.ushiftRight_eq', e2]
    rfl
  rw [g, BitVec.getLsbD_ushiftRight]
theorem own_bl_zero (x : Int64) : x = 0 ↔ ∀ j, j < 64 → own_bl x j = false := by
  constructor
  · intro h j _; rw [h]; simp [own_bl]
  · intro h
    apply own_bl_ext
    intro j hj
    rw [h j hj]; simp [own_bl]
theorem own_bl_hi (x : Int64) (j : Nat) (h : 64 ≤ j) : own_bl x j = false := by
  unfold own_bl; exact BitVec.getLsbD_of_ge _ _ h
theorem own_bl_tst (x : Int64) (i : Int32) (h0 : 0 ≤ i.toInt) (h1 : i.toInt < 64) : (Jvm.Free.XT.ushrL x i &&& 1 = 0) ↔ own_bl x (ix i) = false := by
  have e1 : (1 : Int64).toBitVec = 1#64 := by decide
  rw [own_bl_zero]
  have b : ∀ j, own_bl (Jvm.Free.XT.ushrL x i &&& 1) j = (own_bl x (ix i + j) && decide (j = 0)) := fun j => by
    rw [← own_bl_ushr x i h0 h1 j]
    unfold own_bl
    rw [Int64.toBitVec_and, BitVec.getLsbD_and, e1, BitVec.getLsbD_one]
    simp
  constructor
  · intro h; have := h 0 (by decide); rw [b] at this; simpa using this
  · intro h j hj
    rw [b]
    by_cases w : j = 0
    · rw [w]; simpa using h
    · simp [w]
theorem own_bl_one (i : Int32) (h0 : 0 ≤ i.toInt) (h1 : i.toInt < 64) (j : Nat) (hj : j < 64) : own_bl ((1 : Int64) <<< (i.toInt64 &&& 63)) j = decide (j = ix i) := by
  obtain ⟨e, _, hn⟩ := own_sh64 i h0 h1
  have e2 : (BitVec.ofNat 64 (ix i)).toNat = ix i := by simp; omega
  have e1 : (1 : Int64).toBitVec = 1#64 := by decide
  unfold own_bl
  rw [Int64.toBitVec_shiftLeft, e, BitVec.shiftLeft_eq', e2, BitVec.getLsbD_shiftLeft, e1, BitVec.getLsbD_one]
  by_cases q : j = ix i
  · subst q; simp [hj]
  · by_cases l : j < ix i
    · simp [l, q]
    · have : ¬ (j - ix i = 0) := by omega
      simp [q, this]
theorem own_bl_or (x y : Int64) (j : Nat) : own_bl (x ||| y) j = (own_bl x j || own_bl y j) := by simp [own_bl]
theorem own_bl_and (x y : Int64) (j : Nat) : own_bl (x &&& y) j = (own_bl x j && own_bl y j) := by simp [own_bl]
theorem own_bl_neg (x : Int64) (j : Nat) (hj : j < 64) : own_bl (x ^^^ (-1)) j = !own_bl x j := by
  have e : (-1 : Int64).toBitVec = BitVec.allOnes 64 := by decide
  simp [own_bl, e, hj]
theorem own_bl_0 (j : Nat) : own_bl 0 j = false := by simp [own_bl]

/-! the poller with two pipes and two polls, as a function -/
theorem own_sh1 (x : Int32) : (x >>> ((1 : Int32) &&& 31)).toInt = x.toInt / 2 := Jvm.Kit.i32_shr x ((1 : Int32) &&& 31) (k := 1) (by decide)
theorem own_hx {x : Int32} (h : 0 ≤ x.toInt ∧ x.toInt < 4) : inb 8 (x >>> ((1 : Int32) &&& 31)) ∧ ix (x >>> ((1 : Int32) &&& 31)) = ix x / 2 := by
  have a := own_sh1 x
  have b := ix_int h.1
  have c := ix_int (i := x >>> ((1 : Int32) &&& 31)) (by omega)
  exact ⟨⟨by omega, by show _ < (8 : Int); omega⟩, by omega⟩
theorem own_odd (x : Int32) (h : 0 ≤ x.toInt) : x &&& 1 = 0 ↔ ix x % 2 = 0 := by
  have m := Jvm.Kit.i32_mask x 1 (k := 1) (by decide) (by decide)
  have e : ((2 : Int) ^ 1) = 2 := by decide
  rw [e] at m
  have b := ix_int h
  rw [i32_eq, m]
  show x.toInt % 2 = 0 ↔ _
  omega
/-- is an end open -/
def own_op (s : St) (f : Nat) : Int32 := if f % 2 = 0 then gI s 1 (f / 2) else gI s 2 (f / 2)
/-- its readiness -/
def own_ry (s : St) (f : Nat) : Int32 := if f % 2 = 0 then (if 0 < gI s 5 (f / 2) then (if gI s 2 (f / 2) = 0 then 5 else 1) else (if gI s 2 (f / 2) = 0 then 5 else 0)) else (if gI s 5 (f / 2) < gI s 0 18 then (if gI s 1 (f / 2) = 0 then 10 else 2) else (if gI s 1 (f / 2) = 0 then 10 else 0))
/-- the poller's order -/
def own_B (s : St) : Prop := gI s 0 17 = 2 ∧ gI s 0 19 = 2 ∧ (1 ≤ (gI s 0 18).toInt ∧ (gI s 0 18).toInt ≤ 4) ∧ (∀ p, p < 2 → (gI s 1 p = 0 ∨ gI s 1 p = 1) ∧ (gI s 2 p = 0 ∨ gI s 2 p = 1))
theorem own_op01 {s : St} (B : own_B s) {f : Nat} (hf : f < 4) : own_op s f = 0 ∨ own_op s f = 1 := by
  unfold own_op
  split
  · exact (B.2.2.2 _ (by omega)).1
  · exact (B.2.2.2 _ (by omega)).2
/-- isOpen -/
theorem own_i3 (s : St) (B : own_B s) (fd : Int32) (h : 0 ≤ fd.toInt ∧ fd.toInt < 4) (Q : Int32 → St → Prop) (hQ : Q (own_op s (ix fd)) s) : calI PP 3 11 [.ref 0, .int fd] s Q := by
  have e4 : (2 : Int32) * gI s 0 17 = 4 := by rw [B.1]; decide
  obtain ⟨hb, hi⟩ := own_hx h
  have xf := ix_int h.1
  have od := own_odd fd h.1
  have o1 := own_op01 B (f := ix fd) (by omega)
  have a1 : own_op s (ix fd) &&& 1 = own_op s (ix fd) := by rcases o1 with w | w <;> rw [w] <;> decide
  apply c3_in
  rw [e4, hi]
  refine ⟨fun q => absurd q (by rw [i32_lt]; simp; omega), fun _ => ⟨fun _ => ⟨fun a => ⟨hb, ?_⟩, fun a => ⟨hb, ?_⟩⟩, fun q => absurd (by rw [i32_lt]; show _ < (4 : Int); omega) q⟩⟩
  · rw [od] at a
    have e : own_op s (ix fd) = gI s 1 (ix fd / 2) := if_pos a
    rw [← e, a1]; exact hQ
  · rw [od] at a
    have e : own_op s (ix fd) = gI s 2 (ix fd / 2) := if_neg a
    rw [← e, a1]; exact hQ
/-- rawReady -/
theorem own_i4 (s : St) (fd : Int32) (h : 0 ≤ fd.toInt ∧ fd.toInt < 4) (Q : Int32 → St → Prop) (hQ : Q (own_ry s (ix fd)) s) : calI PP 4 11 [.ref 0, .int fd] s Q := by
  obtain ⟨hb, hi⟩ := own_hx h
  have od := own_odd fd h.1
  unfold own_ry at hQ
  apply c4_in
  rw [hi]
  refine ⟨fun a => ⟨hb, fun b => ⟨hb, fun c => ?_, fun c => ?_⟩, fun b => ⟨hb, fun m em => ⟨hb, fun c => ?_, fun c => ?_⟩⟩⟩, fun a => ⟨hb, fun b => ⟨hb, fun c => ?_, fun c => ?_⟩, fun b => ⟨hb, fun m em => ⟨hb, fun c => ?_, fun c => ?_⟩⟩⟩⟩
  · rw [if_pos (od.mp a), if_pos b, if_pos c] at hQ; exact hQ
  · rw [if_pos (od.mp a), if_pos b, if_neg c] at hQ; exact hQ
  · rw [if_pos (od.mp a), if_neg b, if_pos c] at hQ; rw [em, if_pos c]; exact hQ
  · rw [if_pos (od.mp a), if_neg b, if_neg c] at hQ; rw [em, if_neg c]; exact hQ
  · rw [if_neg (fun w => a (od.mpr w)), if_pos b, if_pos c] at hQ; exact hQ
  · rw [if_neg (fun w => a (od.mpr w)), if_pos b, if_neg c] at hQ; exact hQ
  · rw [if_neg (fun w => a (od.mpr w)), if_neg b, if_pos c] at hQ; rw [em, if_pos c]; exact hQ
  · rw [if_neg (fun w => a (od.mpr w)), if_neg b, if_neg c] at hQ; rw [em, if_neg c]; exact hQ
/-- fdReadiness, as the law reads it -/
def own_rd (s : St) (f : Nat) : Int32 := if own_op s f = 0 then 0 else own_ry s f
theorem own_ry_v (s : St) (f : Nat) : own_ry s f ∈ [(0 : Int32), 1, 2, 5, 10] := by
  unfold own_ry
  split <;> split <;> split <;> decide
theorem own_i27 (s : St) (B : own_B s) (fd : Int32) (h : 0 ≤ fd.toInt ∧ fd.toInt < 4) (Q : Int32 → St → Prop) (h0 : own_op s (ix fd) = 0 → Q (-1) s) (h1 : own_op s (ix fd) ≠ 0 → Q (own_ry s (ix fd)) s) : calI PP 27 11 [.ref 0, .int fd] s Q := by
  apply c27_in
  exact own_i3 s B fd h _ ⟨fun a => h0 a, fun a => own_i4 s fd h _ (h1 a)⟩
theorem own_l4 (L : Nat) (sg : Nat → Int32) (s : St) (B : own_B s) (fd : Int32) (h : 0 ≤ fd.toInt ∧ fd.toInt < 4) (Q : Int32 → Wd → Prop) (hQ : Q (own_rd s (ix fd)) (W1 s)) : lalI PP QQ (some (L, sg)) 4 [.ref 1, .int fd] (W1 s) Q := by
  unfold own_rd at hQ
  apply l4r1W1_in
  refine own_i27 s B fd h _ (fun a => ⟨fun _ => ?_, fun q => absurd (by decide) q⟩) (fun a => ?_)
  · rw [if_pos a] at hQ; exact hQ
  · rw [if_neg a] at hQ
    have m := own_ry_v s (ix fd)
    have k : ∀ x : Int32, x ∈ [(0 : Int32), 1, 2, 5, 10] → (¬ x < 0) ∧ x &&& 15 = x := fun x hx => by
      simp at hx
      rcases hx with rfl | rfl | rfl | rfl | rfl <;> decide
    obtain ⟨k1, k2⟩ := k _ m
    exact ⟨fun q => absurd q k1, fun _ => by rw [k2]; exact hQ⟩
/-- slot -/
theorem own_sx {q fd : Int32} (hq : 0 ≤ q.toInt ∧ q.toInt < 2) (h : 0 ≤ fd.toInt ∧ fd.toInt < 4) : inb 64 (q * 16 + fd) ∧ ix (q * 16 + fd) = 16 * ix q + ix fd := by
  have e1 : (q * 16).toInt = q.toInt * 16 := by rw [i32_mul] <;> simp <;> omega
  have e2 : (q * 16 + fd).toInt = q.toInt * 16 + fd.toInt := by rw [i32_add] <;> rw [e1] <;> omega
  have a := ix_int hq.1
  have b := ix_int h.1
  have c := ix_int (i := q * 16 + fd) (by omega)
  exact ⟨⟨by omega, by show _ < (64 : Int); omega⟩, by omega⟩
theorem own_nn0 {x : Int32} (h : 0 ≤ x.toInt) : ¬ x < 0 := by
  have l : x < 0 ↔ x.toInt < 0 := i32_lt
  rw [l]; omega
def own_wa (w : Int32) : Int32 := ((w &&& 3) ||| 4) ||| 8
/-- peek -/
def own_pk (s : St) (i f : Nat) : Int32 := if gI s 8 i = 0 then 0 else if gI s 7 i &&& 16 = 0 then own_ry s f &&& own_wa (gI s 7 i) else gI s 9 i
theorem own_i9 (s : St) (i fd : Int32) (ib : inb 64 i) (h : 0 ≤ fd.toInt ∧ fd.toInt < 4) (Q : Int32 → St → Prop) (hQ : Q (own_pk s (ix i) (ix fd)) s) : calI PP 9 11 [.ref 0, .int i, .int fd] s Q := by
  unfold own_pk at hQ
  apply c9_in
  refine ⟨ib, fun a => ?_, fun a => ⟨ib, fun b => own_i4 s fd h _ ⟨ib, c5_in _ _ _ ?_⟩, fun b => ⟨ib, ?_⟩⟩⟩
  · rw [if_pos a] at hQ; exact hQ
  · rw [if_neg a, if_pos b] at hQ; exact hQ
  · rw [if_neg a, if_neg b] at hQ; exact hQ
theorem own_i6 (s : St) (B : own_B s) (q : Int32) (hq : 0 ≤ q.toInt ∧ q.toInt < 2) (Q : Int32 → St → Prop) (h : Q 1 s) : calI PP 6 11 [.ref 0, .int q] s Q := by
  apply c6_in
  rw [B.2.1]
  exact ⟨fun a => absurd a (by rw [i32_lt]; simp; omega), fun _ => ⟨fun _ => h, fun b => absurd (by rw [i32_lt]; show _ < (2 : Int); omega) b⟩⟩
/-- lookup -/
theorem own_i14 (s : St) (B : own_B s) (q fd : Int32) (hq : 0 ≤ q.toInt ∧ q.toInt < 2) (h : 0 ≤ fd.toInt ∧ fd.toInt < 4) (Q : Int32 → St → Prop) (h0 : own_op s (ix fd) = 0 ∨ gI s 6 (16 * ix q + ix fd) = 0 → Q (-1) s) (h1 : own_op s (ix fd) ≠ 0 → gI s 6 (16 * ix q + ix fd) ≠ 0 → Q (q * 16 + fd) s) : calI PP 14 11 [.ref 0, .int q, .int fd] s Q := by
  obtain ⟨ib, ei⟩ := own_sx hq h
  apply c14_in
  refine own_i6 s B q hq _ ⟨fun w => absurd w (by decide), fun _ => own_i3 s B fd h _ ⟨fun a => h0 (Or.inl a), fun a => c8_in _ _ _ _ ⟨ib, fun b => ?_, fun b => ?_⟩⟩⟩
  · rw [ei] at b; exact h0 (Or.inr b)
  · rw [ei] at b; exact h1 a b
/-- regInfo, peekReady -/
theorem own_i28 (s : St) (B : own_B s) (q fd : Int32) (hq : 0 ≤ q.toInt ∧ q.toInt < 2) (h : 0 ≤ fd.toInt ∧ fd.toInt < 4) (Q : Int32 → St → Prop) (h0 : own_op s (ix fd) = 0 ∨ gI s 6 (16 * ix q + ix fd) = 0 → Q (-1) s) (h1 : own_op s (ix fd) ≠ 0 → gI s 6 (16 * ix q + ix fd) ≠ 0 → Q (if gI s 8 (16 * ix q + ix fd) = 0 then gI s 7 (16 * ix q + ix fd) ||| 64 else gI s 7 (16 * ix q + ix fd)) s) : calI PP 28 11 [.ref 0, .int q, .int fd] s Q := by
  obtain ⟨ib, ei⟩ := own_sx hq h
  apply c28_in
  refine own_i14 s B q fd hq h _ (fun a => ⟨fun _ => h0 a, fun w => absurd (by decide) w⟩) fun a b => ⟨fun w => absurd w (own_nn0 ib.1), fun _ => ⟨ib, ib, fun c => ?_, fun c => ?_⟩⟩
  · have := h1 a b; rw [ei] at c ⊢; rw [if_pos c] at this; exact this
  · have := h1 a b; rw [ei] at c ⊢; rw [if_neg c] at this; exact this
theorem own_i29 (s : St) (B : own_B s) (q fd : Int32) (hq : 0 ≤ q.toInt ∧ q.toInt < 2) (h : 0 ≤ fd.toInt ∧ fd.toInt < 4) (Q : Int32 → St → Prop) (h0 : own_op s (ix fd) = 0 ∨ gI s 6 (16 * ix q + ix fd) = 0 → Q (-1) s) (h1 : own_op s (ix fd) ≠ 0 → gI s 6 (16 * ix q + ix fd) ≠ 0 → Q (own_pk s (16 * ix q + ix fd) (ix fd)) s) : calI PP 29 11 [.ref 0, .int q, .int fd] s Q := by
  obtain ⟨ib, ei⟩ := own_sx hq h
  apply c29_in
  refine own_i14 s B q fd hq h _ (fun a => ⟨fun _ => h0 a, fun w => absurd (by decide) w⟩) fun a b => ⟨fun w => absurd w (own_nn0 ib.1), fun _ => own_i9 s _ fd ib h _ ?_⟩
  rw [ei]; exact h1 a b

/-- the bits that the law keeps in mind, after a step -/
def own_pu (P : Nat → Nat → Int32) (s t : St) (q f : Nat) : Int32 := (P q f &&& own_rd t f) ||| (own_rd t f &&& (own_rd s f ^^^ (-1)))
/-- what is registered -/
def own_E (s : St) (P : Nat → Nat → Int32) : Prop := ∀ q f, q < 2 → f < 4 → gI s 6 (16 * q + f) ≠ 0 → own_op s f ≠ 0 ∧ gI s 7 (16 * q + f) &&& (-52) = 0 ∧ (gI s 8 (16 * q + f) ≠ 0 → gI s 7 (16 * q + f) &&& 16 ≠ 0 → gI s 9 (16 * q + f) = (own_ry s f &&& own_wa (gI s 7 (16 * q + f))) &&& P q f)
theorem own_al1 (o n m P : Int32) : (((o &&& m) &&& P) &&& n) ||| ((n &&& (o ^^^ (-1))) &&& m) = (n &&& m) &&& ((P &&& n) ||| (n &&& (o ^^^ (-1)))) := by
  apply own_bt_ext
  intro j hj
  have h1 : ∀ x y : Int32, own_bt (x ||| y) j = (own_bt x j || own_bt y j) := fun x y => by simp [own_bt]
  simp only [h1, own_bt_and, own_bt_neg _ j hj]
  cases own_bt o j <;> cases own_bt n j <;> cases own_bt m j <;> cases own_bt P j <;> rfl
theorem own_al2 (n m P : Int32) : (n &&& m) &&& P = (n &&& m) &&& ((P &&& n) ||| (n &&& (n ^^^ (-1)))) := by
  apply own_bt_ext
  intro j hj
  have h1 : ∀ x y : Int32, own_bt (x ||| y) j = (own_bt x j || own_bt y j) := fun x y => by simp [own_bt]
  simp only [h1, own_bt_and, own_bt_neg _ j hj]
  cases own_bt n j <;> cases own_bt m j <;> cases own_bt P j <;> rfl
theorem own_rd_op {s : St} {f : Nat} (h : own_op s f ≠ 0) : own_rd s f = own_ry s f := if_neg h
/-- registrations that stay, their bits brought up to date -/
theorem own_E_st {s t : St} {P : Nat → Nat → Int32} (E : own_E s P) (h : ∀ q f, q < 2 → f < 4 → gI t 6 (16 * q + f) ≠ 0 → gI s 6 (16 * q + f) ≠ 0 ∧ own_op t f = own_op s f ∧ gI t 7 (16 * q + f) = gI s 7 (16 * q + f) ∧ gI t 8 (16 * q + f) = gI s 8 (16 * q + f) ∧ (gI s 8 (16 * q + f) ≠ 0 → gI s 7 (16 * q + f) &&& 16 ≠ 0 → gI t 9 (16 * q + f) = (gI s 9 (16 * q + f) &&& own_ry t f) ||| ((own_ry t f &&& (own_ry s f ^^^ (-1))) &&& own_wa (gI s 7 (16 * q + f))) ∨ (gI t 9 (16 * q + f) = gI s 9 (16 * q + f) ∧ own_ry t f = own_ry s f))) : own_E t (own_pu P s t) := fun q f hq hf r => by
  obtain ⟨r', o, w, e, p⟩ := h q f hq hf r
  obtain ⟨a, b, c⟩ := E q f hq hf r'
  rw [o, w, e]
  refine ⟨a, b, fun e1 e2 => ?_⟩
  have c := c e1 e2
  unfold own_pu
  rw [own_rd_op (s := t) (by rw [o]; exact a), own_rd_op (s := s) a]
  rcases p e1 e2 with p | ⟨p, y⟩
  · rw [p, c]; exact own_al1 _ _ _ _
  · rw [p, c, y]; exact own_al2 _ _ _
/-- edgeUpdate -/
theorem own_i13 (s : St) (B : own_B s) (fd old : Int32) (h : 0 ≤ fd.toInt ∧ fd.toInt < 4) (Q : St → Prop) (hQ : ∀ t, (∀ c j, c ≠ 9 → gI t c j = gI s c j) → (∀ q f, q < 2 → f < 4 → f ≠ ix fd → gI t 9 (16 * q + f) = gI s 9 (16 * q + f)) → (∀ q, q < 2 → own_op s (ix fd) ≠ 0 → gI s 6 (16 * q + ix fd) ≠ 0 → gI s 8 (16 * q + ix fd) ≠ 0 → gI s 7 (16 * q + ix fd) &&& 16 ≠ 0 → gI t 9 (16 * q + ix fd) = (gI s 9 (16 * q + ix fd) &&& own_ry s (ix fd)) ||| ((own_ry s (ix fd) &&& (old ^^^ (-1))) &&& own_wa (gI s 7 (16 * q + ix fd)))) → Q t) : calV PP 13 11 [.ref 0, .int fd, .int old] s Q := by
  have xf := ix_int h.1
  apply c13_in
  refine own_i3 s B fd h _ ⟨fun a => hQ s (fun _ _ _ => rfl) (fun _ _ _ _ _ => rfl) (fun _ _ b => absurd a b), fun a => own_i4 s fd h _ ?_⟩
  generalize hn : own_ry s (ix fd) = nw at hQ ⊢
  refine loop_up (F := fun i => ∀ u, (∀ c j, c ≠ 9 → gI u c j = gI s c j) → (∀ q f, q < 2 → f < 4 → f ≠ ix fd → gI u 9 (16 * q + f) = gI s 9 (16 * q + f)) → (∀ q, ix i ≤ q → q < 2 → gI u 9 (16 * q + ix fd) = gI s 9 (16 * q + ix fd)) → (∀ q, q < ix i → own_op s (ix fd) ≠ 0 → gI s 6 (16 * q + ix fd) ≠ 0 → gI s 8 (16 * q + ix fd) ≠ 0 → gI s 7 (16 * q + ix fd) &&& 16 ≠ 0 → gI u 9 (16 * q + ix fd) = (gI s 9 (16 * q + ix fd) &&& nw) ||| ((nw &&& (old ^^^ (-1))) &&& own_wa (gI s 7 (16 * q + ix fd)))) → wpcV PP 13 cm13 11 18 [some (.ref 0), some (.int fd), some (.int old), some (.int nw), some (.int i), none, none] [] u Q) 2 (by decide) (fun i i0 i1 e ih u uc uo un ud => ?_) (fun i hi u uc uo un ud => ?_) 0 (by decide) (by decide) s (fun _ _ _ => rfl) (fun _ _ _ _ _ => rfl) (fun _ _ _ => rfl) (fun q hq => absurd hq (by simp [ix]))
  · have xi := ix_int i0
    have xj := ix_int (i := i + 1) (by omega)
    obtain ⟨ib, ei⟩ := own_sx (q := i) (fd := fd) ⟨i0, i1⟩ h
    have nx : ¬ (gI s 6 (16 * ix i + ix fd) ≠ 0 ∧ gI s 8 (16 * ix i + ix fd) ≠ 0 ∧ gI s 7 (16 * ix i + ix fd) &&& 16 ≠ 0) → wpcV PP 13 cm13 11 107 [some (.ref 0), some (.int fd), some (.int old), some (.int nw), some (.int i), none, none] [] u Q := fun no => c13_107 _ _ _ _ _ _ (ih u uc uo (fun q h1 h2 => un q (by omega) h2) fun q hq o r1 r2 r3 => by
      by_cases y : q = ix i
      · subst y; exact absurd ⟨r1, r2, r3⟩ no
      · exact ud q (by omega) o r1 r2 r3)
    refine c13_18 _ _ _ _ _ _ ⟨fun _ => c8_in _ _ _ _ ⟨ib, fun z => nx fun y => y.1 ?_, fun z6 => ⟨ib, fun z => nx fun y => y.2.1 ?_, fun z8 => ⟨ib, fun z => nx fun y => y.2.2 ?_, fun z7 => ⟨ib, c5_in _ _ _ ⟨ib, ib, c13_107 _ _ _ _ _ _ (ih _ (fun c j hc => ?_) (fun q f hq hf hne => ?_) (fun q h1 h2 => ?_) (fun q hq o r1 r2 r3 => ?_))⟩⟩⟩⟩⟩, fun q => absurd (by rw [uc 0 _ (by decide), B.2.1, i32_lt]; exact i1) q⟩
    · rw [ei, uc 6 _ (by decide)] at z; exact z
    · rw [ei, uc 8 _ (by decide)] at z; exact z
    · rw [ei, uc 7 _ (by decide)] at z; exact z
    · rw [gI_sI, if_neg (fun w => hc w.1)]; exact uc c j hc
    · rw [gI_sI, ei, if_neg (by omega)]; exact uo q f hq hf hne
    · rw [gI_sI, ei, if_neg (by omega)]; exact un q (by omega) h2
    · rw [gI_sI, ei]
      by_cases y : q = ix i
      · subst y
        rw [if_pos ⟨rfl, rfl⟩, uc 7 _ (by decide), un (ix i) (Nat.le_refl _) (by omega)]; rfl
      · rw [if_neg (by omega)]; exact ud q (by omega) o r1 r2 r3
  · have xi := ix_int (i := i) (by omega)
    exact c13_18 _ _ _ _ _ _ ⟨fun q => absurd q (by rw [uc 0 _ (by decide), B.2.1, i32_lt, hi]; decide), fun _ => hQ u uc uo fun q hq o => ud q (by omega) o⟩
theorem own_B_cg {s t : St} (B : own_B s) (h : ∀ c j, c ≠ 9 → gI t c j = gI s c j) : own_B t := by
  unfold own_B
  simp only [h 0 _ (show (0 : Nat) ≠ 9 by decide), h 1 _ (show (1 : Nat) ≠ 9 by decide), h 2 _ (show (2 : Nat) ≠ 9 by decide)]
  exact B
theorem own_op_cg {s t : St} (h1 : ∀ j, gI t 1 j = gI s 1 j) (h2 : ∀ j, gI t 2 j = gI s 2 j) (f : Nat) : own_op t f = own_op s f := by unfold own_op; rw [h1, h2]
theorem own_ry_cg {s t : St} (f : Nat) (h0 : gI t 0 18 = gI s 0 18) (h1 : gI t 1 (f / 2) = gI s 1 (f / 2)) (h2 : gI t 2 (f / 2) = gI s 2 (f / 2)) (h5 : gI t 5 (f / 2) = gI s 5 (f / 2)) : own_ry t f = own_ry s f := by unfold own_ry; rw [h0, h1, h2, h5]
/-- the count of pipe p changes, both ends are brought up to date -/
theorem own_wr {s u : St} {P : Nat → Nat → Int32} (B : own_B s) (E : own_E s P) (p : Int32) (hp : 0 ≤ p.toInt ∧ p.toInt < 2) (uc : ∀ c j, c ≠ 3 → c ≠ 4 → ¬ (c = 5 ∧ j = ix p) → gI u c j = gI s c j) (o0 o1 : Int32) (e0 : o0 = own_ry s (2 * ix p)) (e1 : o1 = own_ry s (2 * ix p + 1)) (Q : St → Prop) (h : ∀ t, own_B t → own_E t (own_pu P s t) → Q t) : calV PP 13 11 [.ref 0, .int (2 * p), .int o0] u (fun w => calV PP 13 11 [.ref 0, .int (2 * p + 1), .int o1] w Q) := by
  have xp := ix_int hp.1
  have m2 : (2 * p).toInt = 2 * p.toInt := i32_mul (x := 2) (y := p) (by show (-2147483648 : Int) ≤ 2 * p.toInt; omega) (by show 2 * p.toInt < (2147483648 : Int); omega)
  have m3 : (2 * p + 1).toInt = 2 * p.toInt + 1 := by
    have := i32_add (x := 2 * p) (y := 1) (by show (-2147483648 : Int) ≤ (2 * p).toInt + 1; omega) (by show (2 * p).toInt + 1 < (2147483648 : Int); omega)
    rw [this, m2]; rfl
  have x2 := ix_int (i := 2 * p) (by omega)
  have x3 := ix_int (i := 2 * p + 1) (by omega)
  have i2 : ix (2 * p) = 2 * ix p := by omega
  have i3 : ix (2 * p + 1) = 2 * ix p + 1 := by omega
  have Bu : own_B u := by
    obtain ⟨b1, b2, b3, b4⟩ := B
    exact ⟨by rw [uc 0 _ (by decide) (by decide) (by omega), b1], by rw [uc 0 _ (by decide) (by decide) (by omega), b2], by rw [uc 0 _ (by decide) (by decide) (by omega)]; exact b3, fun q hq => by rw [uc 1 _ (by decide) (by decide) (by omega), uc 2 _ (by decide) (by decide) (by omega)]; exact b4 q hq⟩
  refine own_i13 u Bu (2 * p) o0 (by omega) _ fun w wc wo wd => ?_
  have Bw := own_B_cg Bu wc
  refine own_i13 w Bw (2 * p + 1) o1 (by omega) _ fun t tc to td => ?_
  rw [i2] at wo wd
  rw [i3] at to td
  have ut : ∀ c j, c ≠ 9 → gI t c j = gI u c j := fun c j hc => by rw [tc c j hc, wc c j hc]
  have us : ∀ c j, c ≠ 9 → c ≠ 3 → c ≠ 4 → ¬ (c = 5 ∧ j = ix p) → gI t c j = gI s c j := fun c j a b d e => by rw [ut c j a, uc c j b d e]
  have opt : ∀ f, own_op t f = own_op s f := own_op_cg (fun j => us 1 j (by decide) (by decide) (by decide) (by omega)) (fun j => us 2 j (by decide) (by decide) (by decide) (by omega))
  have opw : ∀ f, own_op w f = own_op s f := own_op_cg (fun j => by rw [wc 1 j (by decide), uc 1 j (by decide) (by decide) (by omega)]) (fun j => by rw [wc 2 j (by decide), uc 2 j (by decide) (by decide) (by omega)])
  have opu : ∀ f, own_op u f = own_op s f := own_op_cg (fun j => uc 1 j (by decide) (by decide) (by omega)) (fun j => uc 2 j (by decide) (by decide) (by omega))
  have ryw : ∀ f, own_ry t f = own_ry w f := fun f => own_ry_cg f (tc 0 _ (by decide)) (tc 1 _ (by decide)) (tc 2 _ (by decide)) (tc 5 _ (by decide))
  have ryu : ∀ f, own_ry t f = own_ry u f := fun f => own_ry_cg f (ut 0 _ (by decide)) (ut 1 _ (by decide)) (ut 2 _ (by decide)) (ut 5 _ (by decide))
  refine h t (own_B_cg Bw tc) (own_E_st E fun q f hq hf r => ?_)
  have t6 := us 6 (16 * q + f) (by decide) (by decide) (by decide) (by omega)
  have t7 := us 7 (16 * q + f) (by decide) (by decide) (by decide) (by omega)
  have t8 := us 8 (16 * q + f) (by decide) (by decide) (by decide) (by omega)
  rw [t6] at r
  refine ⟨r, opt f, t7, t8, fun en ed => ?_⟩
  have so : own_op s f ≠ 0 := (E q f hq hf r).1
  by_cases y : f = 2 * ix p
  · left
    subst y
    rw [to q _ hq hf (by omega), wd q hq (by rw [opu]; exact so) (by rw [uc 6 _ (by decide) (by decide) (by omega)]; exact r) (by rw [uc 8 _ (by decide) (by decide) (by omega)]; exact en) (by rw [uc 7 _ (by decide) (by decide) (by omega)]; exact ed), uc 9 _ (by decide) (by decide) (by omega), uc 7 _ (by decide) (by decide) (by omega), ryu, e0]
  · by_cases z : f = 2 * ix p + 1
    · left
      subst z
      rw [td q hq (by rw [opw]; exact so) (by rw [wc 6 _ (by decide), uc 6 _ (by decide) (by decide) (by omega)]; exact r) (by rw [wc 8 _ (by decide), uc 8 _ (by decide) (by decide) (by omega)]; exact en) (by rw [wc 7 _ (by decide), uc 7 _ (by decide) (by decide) (by omega)]; exact ed), wo q _ hq hf (by omega), uc 9 _ (by decide) (by decide) (by omega), wc 7 _ (by decide), uc 7 _ (by decide) (by decide) (by omega), ryw, e1]
    · right
      exact ⟨by rw [to q f hq hf z, wo q f hq hf y, uc 9 _ (by decide) (by decide) (by omega)], own_ry_cg f (us 0 _ (by decide) (by decide) (by decide) (by omega)) (us 1 _ (by decide) (by decide) (by decide) (by omega)) (us 2 _ (by decide) (by decide) (by decide) (by omega)) (us 5 _ (by decide) (by decide) (by decide) (by omega))⟩

theorem own_E_rf {s : St} {P : Nat → Nat → Int32} (E : own_E s P) : own_E s (own_pu P s s) := own_E_st E fun q f hq hf r => ⟨r, rfl, rfl, rfl, fun _ _ => Or.inr ⟨rfl, rfl⟩⟩
theorem own_pr {fd : Int32} (h : 0 ≤ fd.toInt ∧ fd.toInt < 4) : (0 ≤ (fd >>> ((1 : Int32) &&& 31)).toInt ∧ (fd >>> ((1 : Int32) &&& 31)).toInt < 2) ∧ (0 ≤ (2 * (fd >>> ((1 : Int32) &&& 31))).toInt ∧ (2 * (fd >>> ((1 : Int32) &&& 31))).toInt < 4) ∧ (0 ≤ (2 * (fd >>> ((1 : Int32) &&& 31)) + 1).toInt ∧ (2 * (fd >>> ((1 : Int32) &&& 31)) + 1).toInt < 4) ∧ ix (2 * (fd >>> ((1 : Int32) &&& 31))) = 2 * ix (fd >>> ((1 : Int32) &&& 31)) ∧ ix (2 * (fd >>> ((1 : Int32) &&& 31)) + 1) = 2 * ix (fd >>> ((1 : Int32) &&& 31)) + 1 := by
  have a := own_sh1 fd
  generalize fd >>> ((1 : Int32) &&& 31) = p at a ⊢
  have hp : 0 ≤ p.toInt ∧ p.toInt < 2 := by omega
  have xp := ix_int hp.1
  have m2 : (2 * p).toInt = 2 * p.toInt := i32_mul (x := 2) (y := p) (by show (-2147483648 : Int) ≤ 2 * p.toInt; omega) (by show 2 * p.toInt < (2147483648 : Int); omega)
  have m3 : (2 * p + 1).toInt = 2 * p.toInt + 1 := by
    have := i32_add (x := 2 * p) (y := 1) (by show (-2147483648 : Int) ≤ (2 * p).toInt + 1; omega) (by show (2 * p).toInt + 1 < (2147483648 : Int); omega)
    rw [this, m2]; rfl
  have x2 := ix_int (i := 2 * p) (by omega)
  have x3 := ix_int (i := 2 * p + 1) (by omega)
  exact ⟨hp, by omega, by omega, by omega, by omega⟩
theorem own_bx {fd y : Int32} (h : 0 ≤ fd.toInt ∧ fd.toInt < 4) : inb 128 ((fd >>> ((1 : Int32) &&& 31)) * 16 + (y &&& 15)) := by
  have a := own_sh1 fd
  have m := Jvm.Kit.i32_mask y 15 (k := 4) (by decide) (by decide)
  have e : ((2 : Int) ^ 4) = 16 := by decide
  rw [e] at m
  generalize fd >>> ((1 : Int32) &&& 31) = p at a ⊢
  generalize y &&& 15 = z at m ⊢
  have e1 : (p * 16).toInt = p.toInt * 16 := i32_mul (x := p) (y := 16) (by show (-2147483648 : Int) ≤ p.toInt * 16; omega) (by show p.toInt * 16 < (2147483648 : Int); omega)
  have e2 : (p * 16 + z).toInt = p.toInt * 16 + z.toInt := by rw [i32_add] <;> rw [e1] <;> omega
  exact ⟨by omega, by show _ < (128 : Int); omega⟩
/-- write -/
theorem own_o16 {s : St} {P : Nat → Nat → Int32} (B : own_B s) (E : own_E s P) (fd v : Int32) (h : 0 ≤ fd.toInt ∧ fd.toInt < 4) (Q : Int32 → St → Prop) (hQ : ∀ r t, own_B t → own_E t (own_pu P s t) → Q r t) : calI PP 16 11 [.ref 0, .int fd, .int v] s Q := by
  have nil : ∀ r, Q r s := fun r => hQ r s B (own_E_rf E)
  obtain ⟨hb, hi⟩ := own_hx h
  obtain ⟨hp, h2, h3, i2, i3⟩ := own_pr h
  have bx : ∀ y : Int32, inb 128 ((fd >>> ((1 : Int32) &&& 31)) * 16 + (y &&& 15)) := fun y => own_bx h
  apply c16_in
  refine own_i3 s B fd h _ ⟨fun _ => nil _, fun _ => ⟨fun _ => nil _, fun _ => ⟨hb, fun _ => nil _, fun _ => ⟨hb, fun _ => own_i4 s _ h2 _ (own_i4 s _ h3 _ ⟨hb, hb, bx _, hb, hb, ?_⟩), fun _ => nil _⟩⟩⟩⟩
  rw [i2, i3]
  exact own_wr B E _ hp (fun c j a b d => by rw [gI_sI, if_neg d, gI_sI, if_neg (fun w => a w.1)]) _ _ rfl rfl _ fun t Bt Et => hQ _ t Bt Et
/-- read -/
theorem own_o17 {s : St} {P : Nat → Nat → Int32} (B : own_B s) (E : own_E s P) (fd : Int32) (h : 0 ≤ fd.toInt ∧ fd.toInt < 4) (Q : Int32 → St → Prop) (hQ : ∀ r t, own_B t → own_E t (own_pu P s t) → Q r t) : calI PP 17 11 [.ref 0, .int fd] s Q := by
  have nil : ∀ r, Q r s := fun r => hQ r s B (own_E_rf E)
  obtain ⟨hb, hi⟩ := own_hx h
  obtain ⟨hp, h2, h3, i2, i3⟩ := own_pr h
  have bx : ∀ y : Int32, inb 128 ((fd >>> ((1 : Int32) &&& 31)) * 16 + (y &&& 15)) := fun y => own_bx h
  apply c17_in
  refine own_i3 s B fd h _ ⟨fun _ => nil _, fun _ => ⟨fun _ => ⟨hb, fun _ => ⟨hb, fun _ => nil _, fun _ => nil _⟩, fun _ => own_i4 s _ h2 _ (own_i4 s _ h3 _ ⟨hb, bx _, hb, hb, hb, hb, ?_⟩)⟩, fun _ => nil _⟩⟩
  rw [i2, i3]
  exact own_wr B E _ hp (fun c j a b d => by rw [gI_sI, if_neg d, gI_sI, if_neg (fun w => b w.1)]) _ _ rfl rfl _ fun t Bt Et => hQ _ t Bt Et
/-- createPipe -/
theorem own_o15 {s : St} {P : Nat → Nat → Int32} (B : own_B s) (E : own_E s P) (Q : Int32 → St → Prop) (hQ : ∀ r t, own_B t → own_E t (own_pu P s t) → Q r t) : calI PP 15 11 [.ref 0] s Q := by
  apply c15_in
  refine loop_up (F := fun i => wpcI PP 15 cm15 11 2 [some (.ref 0), some (.int i)] [] s Q) 2 (by decide) (fun i i0 i1 e ih => ?_) (fun i hi => ?_) 0 (by decide) (by decide)
  · have xi := ix_int i0
    have ib : inb 8 i := ⟨i0, by show _ < (8 : Int); omega⟩
    have nx := c15_58 i s _ ih
    refine c15_2 _ _ _ ⟨fun _ => ⟨ib, fun z1 => ⟨ib, fun z2 => ⟨ib, ib, ib, ib, ?_⟩, fun _ => nx⟩, fun _ => nx⟩, fun q => absurd (by rw [B.1, i32_lt]; exact i1) q⟩
    generalize hu : sI (sI (sI (sI s 1 (ix i) 1) 2 (ix i) 1) 4 (ix i) 0) 5 (ix i) 0 = u
    have uc : ∀ c j, c ≠ 1 → c ≠ 2 → c ≠ 4 → c ≠ 5 → gI u c j = gI s c j := fun c j a b d e => by subst hu; rw [gI_sI, if_neg (fun w => e w.1), gI_sI, if_neg (fun w => d w.1), gI_sI, if_neg (fun w => b w.1), gI_sI, if_neg (fun w => a w.1)]
    have u1 : ∀ j, gI u 1 j = if j = ix i then 1 else gI s 1 j := fun j => by subst hu; simp [gI_sI]
    have u2 : ∀ j, gI u 2 j = if j = ix i then 1 else gI s 2 j := fun j => by subst hu; simp [gI_sI]
    have u5 : ∀ j, j ≠ ix i → gI u 5 j = gI s 5 j := fun j hj => by subst hu; simp [gI_sI, hj]
    clear hu
    have z0 : ∀ c j, c = 0 → gI u c j = gI s c j := fun c j e => uc c j (by omega) (by omega) (by omega) (by omega)
    refine hQ _ u ⟨by rw [z0 0 _ rfl]; exact B.1, by rw [z0 0 _ rfl]; exact B.2.1, by rw [z0 0 _ rfl]; exact B.2.2.1, fun p hp => ?_⟩ (own_E_st E fun q f hq hf r => ?_)
    · rw [u1, u2]
      by_cases y : p = ix i
      · rw [if_pos y, if_pos y]; exact ⟨Or.inr rfl, Or.inr rfl⟩
      · rw [if_neg y, if_neg y]; exact B.2.2.2 p hp
    · rw [uc 6 _ (by decide) (by decide) (by decide) (by decide)] at r
      have so := (E q f hq hf r).1
      have ne : f / 2 ≠ ix i := fun w => so (by unfold own_op; rw [w, z1, z2]; split <;> rfl)
      refine ⟨r, by unfold own_op; rw [u1, u2, if_neg ne, if_neg ne], uc 7 _ (by decide) (by decide) (by decide) (by decide), uc 8 _ (by decide) (by decide) (by decide) (by decide), fun _ _ => Or.inr ⟨uc 9 _ (by decide) (by decide) (by decide) (by decide), own_ry_cg f (z0 0 _ rfl) (by rw [u1, if_neg ne]) (by rw [u2, if_neg ne]) (u5 _ ne)⟩⟩
  · exact c15_2 _ _ _ ⟨fun q => absurd q (by rw [B.1, i32_lt, hi]; decide), fun _ => hQ _ s B (own_E_rf E)⟩
/-- ctlDel, clearReg -/
theorem own_o21 {s : St} {P : Nat → Nat → Int32} (B : own_B s) (E : own_E s P) (q fd : Int32) (hq : 0 ≤ q.toInt ∧ q.toInt < 2) (h : 0 ≤ fd.toInt ∧ fd.toInt < 4) (Q : Int32 → St → Prop) (hQ : ∀ r t, own_B t → own_E t (own_pu P s t) → Q r t) : calI PP 21 11 [.ref 0, .int q, .int fd] s Q := by
  have nil : ∀ r, Q r s := fun r => hQ r s B (own_E_rf E)
  obtain ⟨ib, ei⟩ := own_sx hq h
  apply c21_in
  refine own_i6 s B q hq _ ⟨fun w => absurd w (by decide), fun _ => own_i3 s B fd h _ ⟨fun _ => nil _, fun _ => c8_in _ _ _ _ ⟨ib, fun _ => nil _, fun _ => c11_in _ _ _ ⟨ib, ib, ib, ib, ?_⟩⟩⟩⟩
  rw [ei]
  generalize hu : sI (sI (sI (sI s 6 (16 * ix q + ix fd) 0) 7 (16 * ix q + ix fd) 0) 8 (16 * ix q + ix fd) 0) 9 (16 * ix q + ix fd) 0 = u
  have uc : ∀ c j, ¬ (6 ≤ c ∧ c ≤ 9 ∧ j = 16 * ix q + ix fd) → gI u c j = gI s c j := fun c j a => by subst hu; rw [gI_sI, if_neg (by omega), gI_sI, if_neg (by omega), gI_sI, if_neg (by omega), gI_sI, if_neg (by omega)]
  have u6 : gI u 6 (16 * ix q + ix fd) = 0 := by subst hu; simp [gI_sI]
  clear hu
  refine hQ _ u ⟨by rw [uc 0 _ (by omega)]; exact B.1, by rw [uc 0 _ (by omega)]; exact B.2.1, by rw [uc 0 _ (by omega)]; exact B.2.2.1, fun p hp => by rw [uc 1 _ (by omega), uc 2 _ (by omega)]; exact B.2.2.2 p hp⟩ (own_E_st E fun q' f hq' hf r => ?_)
  have ne : 16 * q' + f ≠ 16 * ix q + ix fd := fun w => r (by rw [w]; exact u6)
  rw [uc 6 _ (by omega)] at r
  exact ⟨r, own_op_cg (fun j => uc 1 j (by omega)) (fun j => uc 2 j (by omega)) f, uc 7 _ (by omega), uc 8 _ (by omega), fun _ _ => Or.inr ⟨uc 9 _ (by omega), own_ry_cg f (uc 0 _ (by omega)) (uc 1 _ (by omega)) (uc 2 _ (by omega)) (uc 5 _ (by omega))⟩⟩
/-- one registration that stays -/
theorem own_E_one {s t : St} {P : Nat → Nat → Int32} (E : own_E s P) {q f : Nat} (hq : q < 2) (hf : f < 4) (r : gI s 6 (16 * q + f) ≠ 0) (o : own_op t f = own_op s f) (w : gI t 7 (16 * q + f) = gI s 7 (16 * q + f)) (e : gI t 8 (16 * q + f) = gI s 8 (16 * q + f)) (p : gI t 9 (16 * q + f) = gI s 9 (16 * q + f)) (y : own_ry t f = own_ry s f) : own_op t f ≠ 0 ∧ gI t 7 (16 * q + f) &&& (-52) = 0 ∧ (gI t 8 (16 * q + f) ≠ 0 → gI t 7 (16 * q + f) &&& 16 ≠ 0 → gI t 9 (16 * q + f) = (own_ry t f &&& own_wa (gI t 7 (16 * q + f))) &&& own_pu P s t q f) := by
  obtain ⟨a, b, c⟩ := E q f hq hf r
  rw [o, w, e]
  refine ⟨a, b, fun e1 e2 => ?_⟩
  unfold own_pu
  rw [own_rd_op (s := t) (by rw [o]; exact a), own_rd_op (s := s) a, p, c e1 e2, y]
  exact own_al2 _ _ _
/-- the bits after a registration -/
def own_pg (P : Nat → Nat → Int32) (s t : St) (q f : Nat) : Nat → Nat → Int32 := fun q' f' => if q' = q ∧ f' = f then own_rd t f else own_pu P s t q' f'
/-- arm -/
theorem own_i10 {s0 s : St} {P : Nat → Nat → Int32} (B : own_B s0) (E : own_E s0 P) (q fd w : Int32) (hq : 0 ≤ q.toInt ∧ q.toInt < 2) (h : 0 ≤ fd.toInt ∧ fd.toInt < 4) (hw : w &&& (-52) = 0) (ho : own_op s0 (ix fd) ≠ 0) (sc : ∀ c j, ¬ (c = 6 ∧ j = 16 * ix q + ix fd) → gI s c j = gI s0 c j) (Q : St → Prop) (hQ : ∀ t, own_B t → own_E t (own_pg P s0 t (ix q) (ix fd)) → Q t) : calV PP 10 11 [.ref 0, .int (q * 16 + fd), .int fd, .int w] s Q := by
  obtain ⟨ib, ei⟩ := own_sx hq h
  have xq := ix_int hq.1
  have xf := ix_int h.1
  have fin : ∀ t, (∀ c j, ¬ (6 ≤ c ∧ c ≤ 9 ∧ j = 16 * ix q + ix fd) → gI t c j = gI s c j) → gI t 7 (16 * ix q + ix fd) = w → (w &&& 16 ≠ 0 → gI t 9 (16 * ix q + ix fd) = own_ry t (ix fd) &&& own_wa w) → Q t := fun t tc t7 t9 => by
    have ts : ∀ c j, ¬ (6 ≤ c ∧ c ≤ 9 ∧ j = 16 * ix q + ix fd) → gI t c j = gI s0 c j := fun c j a => by rw [tc c j a, sc c j (by omega)]
    have op : ∀ f, own_op t f = own_op s0 f := own_op_cg (fun j => ts 1 j (by omega)) (fun j => ts 2 j (by omega))
    have ry : ∀ f, own_ry t f = own_ry s0 f := fun f => own_ry_cg f (ts 0 _ (by omega)) (ts 1 _ (by omega)) (ts 2 _ (by omega)) (ts 5 _ (by omega))
    refine hQ t ⟨by rw [ts 0 _ (by omega)]; exact B.1, by rw [ts 0 _ (by omega)]; exact B.2.1, by rw [ts 0 _ (by omega)]; exact B.2.2.1, fun p hp => by rw [ts 1 _ (by omega), ts 2 _ (by omega)]; exact B.2.2.2 p hp⟩ fun q' f hq' hf r => ?_
    unfold own_pg
    by_cases y : q' = ix q ∧ f = ix fd
    · obtain ⟨rfl, rfl⟩ := y
      rw [t7, op, if_pos ⟨rfl, rfl⟩]
      refine ⟨ho, hw, fun _ e2 => ?_⟩
      rw [t9 e2, own_rd_op (by rw [op]; exact ho)]
      apply own_bt_ext
      intro j hj
      simp only [own_bt_and]
      cases own_bt (own_ry t (ix fd)) j <;> cases own_bt (own_wa w) j <;> rfl
    · have ne : 16 * q' + f ≠ 16 * ix q + ix fd := by omega
      rw [if_neg y]
      rw [ts 6 _ (by omega)] at r
      exact own_E_one E hq' hf r (op f) (ts 7 _ (by omega)) (ts 8 _ (by omega)) (ts 9 _ (by omega)) (ry f)
  apply c10_in
  rw [ei]
  refine ⟨ib, ib, fun z => ⟨ib, fin _ (fun c j a => ?_) (by simp [gI_sI]) (fun y => absurd z y)⟩, fun z => own_i4 _ fd h _ (c5_in _ _ _ ⟨ib, fin _ (fun c j a => ?_) (by simp [gI_sI]) (fun _ => ?_)⟩)⟩
  · rw [gI_sI, if_neg (by omega), gI_sI, if_neg (by omega), gI_sI, if_neg (by omega)]
  · rw [gI_sI, if_neg (by omega), gI_sI, if_neg (by omega), gI_sI, if_neg (by omega)]
  · rw [gI_sI, if_pos ⟨rfl, rfl⟩]
    have : own_ry (sI (sI (sI s 7 (16 * ix q + ix fd) w) 8 (16 * ix q + ix fd) 1) 9 (16 * ix q + ix fd) (own_ry (sI (sI s 7 (16 * ix q + ix fd) w) 8 (16 * ix q + ix fd) 1) (ix fd) &&& (((w &&& 3) ||| 4) ||| 8))) (ix fd) = own_ry (sI (sI s 7 (16 * ix q + ix fd) w) 8 (16 * ix q + ix fd) 1) (ix fd) := own_ry_cg _ (by rw [gI_sI, if_neg (by omega)]) (by rw [gI_sI, if_neg (by omega)]) (by rw [gI_sI, if_neg (by omega)]) (by rw [gI_sI, if_neg (by omega)])
    rw [this]; rfl
/-- ctlAdd, ctlMod -/
theorem own_o19 {s : St} {P : Nat → Nat → Int32} (B : own_B s) (E : own_E s P) (q fd w : Int32) (hq : 0 ≤ q.toInt ∧ q.toInt < 2) (h : 0 ≤ fd.toInt ∧ fd.toInt < 4) (Q : Int32 → St → Prop) (h0 : ∀ r, r ≠ 0 → Q r s) (h1 : ∀ t, own_B t → own_E t (own_pg P s t (ix q) (ix fd)) → Q 0 t) : calI PP 19 11 [.ref 0, .int q, .int fd, .int w] s Q := by
  obtain ⟨ib, ei⟩ := own_sx hq h
  apply c19_in
  refine own_i6 s B q hq _ ⟨fun w => absurd w (by decide), fun _ => c7_in _ _ _ ⟨fun hw => ⟨fun y => absurd y (by decide), fun _ => own_i3 s B fd h _ ⟨fun _ => h0 _ (by decide), fun ho => c8_in _ _ _ _ ⟨ib, fun _ => ⟨ib, own_i10 B E q fd w hq h hw ho (fun c j a => by rw [gI_sI, ei, if_neg a]) _ h1⟩, fun _ => h0 _ (by decide)⟩⟩⟩, fun _ => ⟨fun _ => h0 _ (by decide), fun y => absurd rfl y⟩⟩⟩
theorem own_o20 {s : St} {P : Nat → Nat → Int32} (B : own_B s) (E : own_E s P) (q fd w : Int32) (hq : 0 ≤ q.toInt ∧ q.toInt < 2) (h : 0 ≤ fd.toInt ∧ fd.toInt < 4) (Q : Int32 → St → Prop) (h0 : ∀ r, r ≠ 0 → Q r s) (h1 : ∀ t, own_B t → own_E t (own_pg P s t (ix q) (ix fd)) → Q 0 t) : calI PP 20 11 [.ref 0, .int q, .int fd, .int w] s Q := by
  obtain ⟨ib, ei⟩ := own_sx hq h
  apply c20_in
  refine own_i6 s B q hq _ ⟨fun w => absurd w (by decide), fun _ => c7_in _ _ _ ⟨fun hw => ⟨fun y => absurd y (by decide), fun _ => own_i3 s B fd h _ ⟨fun _ => h0 _ (by decide), fun ho => c8_in _ _ _ _ ⟨ib, fun _ => h0 _ (by decide), fun _ => own_i10 B E q fd w hq h hw ho (fun c j a => rfl) _ h1⟩⟩⟩, fun _ => ⟨fun _ => h0 _ (by decide), fun y => absurd rfl y⟩⟩⟩
/-- the other end -/
theorem own_xr (fd : Int32) (h : 0 ≤ fd.toInt ∧ fd.toInt < 4) : (0 ≤ (fd ^^^ 1).toInt ∧ (fd ^^^ 1).toInt < 4) ∧ ix (fd ^^^ 1) / 2 = ix fd / 2 ∧ ix (fd ^^^ 1) ≠ ix fd := by
  have xf := ix_int h.1
  have key : ∀ n : Fin 4, (0 ≤ (Int32.ofNat n.val ^^^ 1).toInt ∧ (Int32.ofNat n.val ^^^ 1).toInt < 4) ∧ ix (Int32.ofNat n.val ^^^ 1) / 2 = n.val / 2 ∧ ix (Int32.ofNat n.val ^^^ 1) ≠ n.val := by decide
  have := key ⟨ix fd, by omega⟩
  rw [← own_i32 fd h.1] at this
  exact this
/-- removeRegs -/
theorem own_i12 (s : St) (B : own_B s) (fd : Int32) (h : 0 ≤ fd.toInt ∧ fd.toInt < 4) (Q : St → Prop) (hQ : ∀ t, (∀ c j, ¬ (6 ≤ c ∧ c ≤ 9) → gI t c j = gI s c j) → (∀ c q f, q < 2 → f < 4 → f ≠ ix fd → gI t c (16 * q + f) = gI s c (16 * q + f)) → (∀ q, q < 2 → gI t 6 (16 * q + ix fd) = 0) → Q t) : calV PP 12 11 [.ref 0, .int fd] s Q := by
  have xf := ix_int h.1
  apply c12_in
  refine loop_up (F := fun i => ∀ u, (∀ c j, ¬ (6 ≤ c ∧ c ≤ 9) → gI u c j = gI s c j) → (∀ c q f, q < 2 → f < 4 → f ≠ ix fd → gI u c (16 * q + f) = gI s c (16 * q + f)) → (∀ q, q < ix i → gI u 6 (16 * q + ix fd) = 0) → wpcV PP 12 cm12 11 2 [some (.ref 0), some (.int fd), some (.int i)] [] u Q) 2 (by decide) (fun i i0 i1 e ih u uc uo ud => ?_) (fun i hi u uc uo ud => ?_) 0 (by decide) (by decide) s (fun _ _ _ => rfl) (fun _ _ _ _ _ _ => rfl) (fun q hq => absurd hq (by simp [ix]))
  · have xi := ix_int i0
    have xj := ix_int (i := i + 1) (by omega)
    obtain ⟨ib, ei⟩ := own_sx (q := i) (fd := fd) ⟨i0, i1⟩ h
    refine c12_2 _ _ _ _ ⟨fun _ => c8_in _ _ _ _ (c11_in _ _ _ ⟨ib, ib, ib, ib, ?_⟩), fun q => absurd (by rw [uc 0 _ (by omega), B.2.1, i32_lt]; exact i1) q⟩
    rw [ei]
    refine ih _ (fun c j a => ?_) (fun c q f hq hf ne => ?_) (fun q hq => ?_)
    · rw [gI_sI, if_neg (by omega), gI_sI, if_neg (by omega), gI_sI, if_neg (by omega), gI_sI, if_neg (by omega)]; exact uc c j a
    · rw [gI_sI, if_neg (by omega), gI_sI, if_neg (by omega), gI_sI, if_neg (by omega), gI_sI, if_neg (by omega)]; exact uo c q f hq hf ne
    · rw [gI_sI, if_neg (by omega), gI_sI, if_neg (by omega), gI_sI, if_neg (by omega), gI_sI]
      by_cases y : q = ix i
      · rw [if_pos ⟨rfl, by rw [y]⟩]
      · rw [if_neg (by omega)]; exact ud q (by omega)
  · have xi := ix_int (i := i) (by omega)
    exact c12_2 _ _ _ _ ⟨fun q => absurd q (by rw [uc 0 _ (by omega), B.2.1, i32_lt, hi]; decide), fun _ => hQ u uc uo fun q hq => ud q (by omega)⟩
/-- closeFd -/
theorem own_o18 {s : St} {P : Nat → Nat → Int32} (B : own_B s) (E : own_E s P) (fd : Int32) (h : 0 ≤ fd.toInt ∧ fd.toInt < 4) (Q : Int32 → St → Prop) (hQ : ∀ r t, own_B t → own_E t (own_pu P s t) → Q r t) : calI PP 18 11 [.ref 0, .int fd] s Q := by
  have nil : ∀ r, Q r s := fun r => hQ r s B (own_E_rf E)
  have xf := ix_int h.1
  obtain ⟨hb, hi⟩ := own_hx h
  obtain ⟨hx, xd, xn⟩ := own_xr fd h
  have xo := ix_int hx.1
  have od := own_odd fd h.1
  have go : ∀ old : Int32, (own_op s (ix (fd ^^^ 1)) ≠ 0 → old = own_ry s (ix (fd ^^^ 1))) → wpcI PP 18 cm18 11 36 [some (.ref 0), some (.int fd), some (.int (fd >>> ((1 : Int32) &&& 31))), some (.int (fd ^^^ 1)), some (.int old)] [] s Q := fun old ho => by
    have fin : ∀ u, (∀ c j, ¬ (1 ≤ c ∧ c ≤ 2 ∧ j = ix fd / 2) → gI u c j = gI s c j) → (own_op u (ix (fd ^^^ 1)) = own_op s (ix (fd ^^^ 1))) → own_B u → wpcI PP 18 cm18 11 59 [some (.ref 0), some (.int fd), none, some (.int (fd ^^^ 1)), some (.int old)] [] u Q := fun u uc uo Bu => by
      apply c18_59
      refine own_i12 u Bu fd h _ fun w wc wo wz => ?_
      have Bw : own_B w := ⟨by rw [wc 0 _ (by omega)]; exact Bu.1, by rw [wc 0 _ (by omega)]; exact Bu.2.1, by rw [wc 0 _ (by omega)]; exact Bu.2.2.1, fun p hp => by rw [wc 1 _ (by omega), wc 2 _ (by omega)]; exact Bu.2.2.2 p hp⟩
      have opw : ∀ f, own_op w f = own_op u f := own_op_cg (fun j => wc 1 j (by omega)) (fun j => wc 2 j (by omega))
      refine own_i13 w Bw _ _ hx _ fun t tc to td => hQ _ t (own_B_cg Bw tc) (own_E_st E fun q f hq hf r => ?_)
      have fne : f ≠ ix fd := fun y => r (by rw [tc 6 _ (by decide), y]; exact wz q hq)
      have ts : ∀ c, 6 ≤ c → c ≠ 9 → gI t c (16 * q + f) = gI s c (16 * q + f) := fun c a b => by rw [tc c _ b, wo c q f hq hf fne, uc c _ (by omega)]
      have opt : own_op t f = own_op u f := by rw [own_op_cg (fun j => tc 1 j (by decide)) (fun j => tc 2 j (by decide)) f, opw]
      have ryt : ∀ f, own_ry t f = own_ry w f := fun f => own_ry_cg f (tc 0 _ (by decide)) (tc 1 _ (by decide)) (tc 2 _ (by decide)) (tc 5 _ (by decide))
      rw [ts 6 (by decide) (by decide)] at r
      have so := (E q f hq hf r).1
      by_cases y : f = ix (fd ^^^ 1)
      · subst y
        refine ⟨r, by rw [opt, uo], ts 7 (by decide) (by decide), ts 8 (by decide) (by decide), fun en ed => Or.inl ?_⟩
        rw [td q hq (by rw [opw, uo]; exact so) (by rw [wo 6 q _ hq hf fne, uc 6 _ (by omega)]; exact r) (by rw [wo 8 q _ hq hf fne, uc 8 _ (by omega)]; exact en) (by rw [wo 7 q _ hq hf fne, uc 7 _ (by omega)]; exact ed), wo 9 q _ hq hf fne, uc 9 _ (by omega), wo 7 q _ hq hf fne, uc 7 _ (by omega), ryt, ← ho so]
      · have hd : f / 2 ≠ ix fd / 2 := by omega
        have u1 : gI u 1 (f / 2) = gI s 1 (f / 2) := uc 1 _ (by omega)
        have u2 : gI u 2 (f / 2) = gI s 2 (f / 2) := uc 2 _ (by omega)
        refine ⟨r, by rw [opt]; unfold own_op; rw [u1, u2], ts 7 (by decide) (by decide), ts 8 (by decide) (by decide), fun _ _ => Or.inr ⟨by rw [to q f hq hf y, wo 9 q f hq hf fne, uc 9 _ (by omega)], ?_⟩⟩
        rw [ryt]
        exact own_ry_cg f (by rw [wc 0 _ (by omega), uc 0 _ (by omega)]) (by rw [wc 1 _ (by omega), u1]) (by rw [wc 2 _ (by omega), u2]) (by rw [wc 5 _ (by omega), uc 5 _ (by omega)])
    refine c18_36 _ _ _ _ _ _ ⟨fun a => ⟨hb, ?_⟩, fun a => ⟨hb, ?_⟩⟩
    · rw [hi]
      rw [od] at a
      refine fin _ (fun c j b => by rw [gI_sI, if_neg (by omega)]) ?_ ⟨by rw [gI_sI, if_neg (by omega)]; exact B.1, by rw [gI_sI, if_neg (by omega)]; exact B.2.1, by rw [gI_sI, if_neg (by omega)]; exact B.2.2.1, fun p hp => ?_⟩
      · unfold own_op
        rw [if_neg (by omega), if_neg (by omega), gI_sI, if_neg (by omega)]
      · rw [gI_sI, gI_sI, if_neg (show ¬ (2 = 1 ∧ p = ix fd / 2) by omega)]
        refine ⟨?_, (B.2.2.2 p hp).2⟩
        split
        · exact Or.inl rfl
        · exact (B.2.2.2 p hp).1
    · rw [hi]
      rw [od] at a
      refine fin _ (fun c j b => by rw [gI_sI, if_neg (by omega)]) ?_ ⟨by rw [gI_sI, if_neg (by omega)]; exact B.1, by rw [gI_sI, if_neg (by omega)]; exact B.2.1, by rw [gI_sI, if_neg (by omega)]; exact B.2.2.1, fun p hp => ?_⟩
      · unfold own_op
        rw [if_pos (by omega), if_pos (by omega), gI_sI, if_neg (by omega)]
      · rw [gI_sI, gI_sI, if_neg (show ¬ (1 = 2 ∧ p = ix fd / 2) by omega)]
        refine ⟨(B.2.2.2 p hp).1, ?_⟩
        split
        · exact Or.inl rfl
        · exact (B.2.2.2 p hp).2
  apply c18_in
  refine own_i3 s B fd h _ ⟨fun _ => nil _, fun _ => own_i3 s B _ hx _ ⟨fun z => go 0 (fun y => absurd z y), fun _ => own_i4 s _ hx _ (go _ fun _ => rfl)⟩⟩

/-- what wait reports -/
def own_sc (s : St) (q M : Nat) : Nat → List Nat
  | 0 => []
  | f + 1 => if gI s 6 (16 * q + f) ≠ 0 ∧ own_pk s (16 * q + f) f ≠ 0 ∧ (own_sc s q M f).length < M then own_sc s q M f ++ [f] else own_sc s q M f
theorem own_sc_lt (s : St) (q M : Nat) : ∀ f, ∀ x, x ∈ own_sc s q M f → x < f
  | 0, x, h => by simp [own_sc] at h
  | f + 1, x, h => by
    unfold own_sc at h
    split at h
    · rcases List.mem_append.mp h with w | w
      · have := own_sc_lt s q M f x w; omega
      · simp at w; omega
    · have := own_sc_lt s q M f x h; omega
theorem own_sc_full (s : St) (q M : Nat) {f : Nat} (h : M ≤ (own_sc s q M f).length) : ∀ g, f ≤ g → own_sc s q M g = own_sc s q M f
  | 0, hg => by rw [show f = 0 by omega]
  | g + 1, hg => by
    by_cases e : f = g + 1
    · rw [e]
    · have ih := own_sc_full s q M h g (by omega)
      show (if _ then _ else _) = _
      rw [ih, if_neg (by omega)]
theorem own_sc_le (s : St) (q M : Nat) : ∀ f, (own_sc s q M f).length ≤ M ∧ (own_sc s q M f).length ≤ f
  | 0 => by simp [own_sc]
  | f + 1 => by
    have := own_sc_le s q M f
    unfold own_sc
    split
    · rw [List.length_append]; simp; omega
    · omega
/-- after a report -/
def own_cs (s t : St) (i : Nat) : Prop := if gI s 7 i &&& 32 = 0 then (gI t 8 i = gI s 8 i ∧ (gI s 7 i &&& 16 ≠ 0 → gI t 9 i = 0)) else gI t 8 i = 0
/-- where wait stands -/
def own_wi (s u : St) (q f : Nat) (l : List Nat) : Prop := (∀ c j, c ≠ 8 → c ≠ 9 → c ≠ 10 → c ≠ 11 → ¬ (c = 0 ∧ j = 31) → gI u c j = gI s c j) ∧ (∀ q' f', q' < 2 → f' < 4 → (q' ≠ q ∨ f' ∉ l) → gI u 8 (16 * q' + f') = gI s 8 (16 * q' + f') ∧ gI u 9 (16 * q' + f') = gI s 9 (16 * q' + f')) ∧ (∀ f', f' ∈ l → own_cs s u (16 * q + f')) ∧ (∀ j (hj : j < l.length), (gI u 10 j).toInt = l[j] ∧ gI u 11 j = own_pk s (16 * q + l[j]) l[j])
theorem own_i22 (s : St) (B : own_B s) (q m : Int32) (hq : 0 ≤ q.toInt ∧ q.toInt < 2) (hm : 1 ≤ m.toInt ∧ m.toInt ≤ 4) (Q : Int32 → St → Prop) (hQ : ∀ (v : Int32) t, own_wi s t (ix q) 4 (own_sc s (ix q) (ix m) 4) → v.toInt = (own_sc s (ix q) (ix m) 4).length → gI t 0 31 = v → Q v t) : calI PP 22 11 [.ref 0, .int q, .int m] s Q := by
  have xq := ix_int hq.1
  have xm := ix_int (i := m) (by omega)
  apply c22_in
  refine own_i6 s B q hq _ ⟨fun w => absurd w (by decide), fun _ => ⟨fun w => absurd w (by rw [i32_lt]; show ¬ _ < (1 : Int); omega), fun _ m' em => ?_⟩⟩
  have em' : m' = m := by rw [em, if_neg (by rw [i32_lt]; show ¬ (16 : Int) < _; omega)]
  subst em'
  clear em
  have e4 : (2 : Int32) * gI s 0 17 = 4 := by rw [B.1]; decide
  rw [e4]
  have fin : ∀ (n : Int32) u, own_wi s u (ix q) 4 (own_sc s (ix q) (ix m') 4) → n.toInt = (own_sc s (ix q) (ix m') 4).length → wpcI PP 22 cm22 11 129 [some (.ref 0), none, none, none, some (.int n), none, none, none, none] [] u Q := fun n u W en => by
    apply c22_129
    refine hQ n _ ⟨fun c j a b d e f => by rw [gI_sI, if_neg f]; exact W.1 c j a b d e f, fun q' f' h1 h2 h3 => by rw [gI_sI, if_neg (by omega), gI_sI, if_neg (by omega)]; exact W.2.1 q' f' h1 h2 h3, fun f' hf => ?_, fun j hj => by rw [gI_sI, if_neg (by omega), gI_sI, if_neg (by omega)]; exact W.2.2.2 j hj⟩ en (by simp [gI_sI])
    have := W.2.2.1 f' hf
    have a8 : gI (sI u 0 31 n) 8 (16 * ix q + f') = gI u 8 (16 * ix q + f') := by rw [gI_sI, if_neg (by omega)]
    have a9 : gI (sI u 0 31 n) 9 (16 * ix q + f') = gI u 9 (16 * ix q + f') := by rw [gI_sI, if_neg (by omega)]
    unfold own_cs at this ⊢
    rw [a8, a9]; exact this
  refine loop_up (F := fun i => ∀ (n : Int32) u, own_wi s u (ix q) (ix i) (own_sc s (ix q) (ix m') (ix i)) → n.toInt = (own_sc s (ix q) (ix m') (ix i)).length → wpcI PP 22 cm22 11 43 [some (.ref 0), some (.int q), none, some (.int m'), some (.int n), some (.int 4), some (.int i), none, none] [] u Q) 4 (by decide) (fun i i0 i1 e ih n u W en => ?_) (fun i hi n u W en => ?_) 0 (by decide) (by decide) 0 s ⟨fun _ _ _ _ _ _ _ => rfl, fun _ _ _ _ _ => ⟨rfl, rfl⟩, fun f' hf => absurd (own_sc_lt s _ _ _ f' hf) (by simp [ix]), fun j hj => absurd hj (by simp [ix, own_sc])⟩ rfl
  · have xi := ix_int i0
    have xj := ix_int (i := i + 1) (by omega)
    have hfd : 0 ≤ i.toInt ∧ i.toInt < 4 := ⟨i0, i1⟩
    obtain ⟨ib, ei⟩ := own_sx hq hfd
    obtain ⟨W1', W2, W3, W4⟩ := id W
    have le := own_sc_le s (ix q) (ix m') (ix i)
    have nin : ix i ∉ own_sc s (ix q) (ix m') (ix i) := fun w => by have := own_sc_lt s _ _ _ _ w; omega
    have eu := W2 (ix q) (ix i) (by omega) (by omega) (Or.inr nin)
    have u7 := W1' 7 (16 * ix q + ix i) (by decide) (by decide) (by decide) (by decide) (by omega)
    have u6 := W1' 6 (16 * ix q + ix i) (by decide) (by decide) (by decide) (by decide) (by omega)
    have ryu : own_ry u (ix i) = own_ry s (ix i) := own_ry_cg _ (W1' 0 _ (by decide) (by decide) (by decide) (by decide) (by omega)) (W1' 1 _ (by decide) (by decide) (by decide) (by decide) (by omega)) (W1' 2 _ (by decide) (by decide) (by decide) (by decide) (by omega)) (W1' 5 _ (by decide) (by decide) (by decide) (by decide) (by omega))
    have pku : own_pk u (16 * ix q + ix i) (ix i) = own_pk s (16 * ix q + ix i) (ix i) := by unfold own_pk; rw [eu.1, eu.2, u7, ryu]
    have nx1 : ix (i + 1) = ix i + 1 := by omega
    have skip : own_sc s (ix q) (ix m') (ix (i + 1)) = own_sc s (ix q) (ix m') (ix i) → wpcI PP 22 cm22 11 123 [some (.ref 0), some (.int q), none, some (.int m'), some (.int n), some (.int 4), some (.int i), none, none] [] u Q := fun es => c22_123 _ _ _ _ _ _ _ (ih n u (by rw [es]; exact ⟨W1', W2, W3, W4⟩) (by rw [es]; exact en))
    have stp : own_sc s (ix q) (ix m') (ix (i + 1)) = if gI s 6 (16 * ix q + ix i) ≠ 0 ∧ own_pk s (16 * ix q + ix i) (ix i) ≠ 0 ∧ (own_sc s (ix q) (ix m') (ix i)).length < ix m' then own_sc s (ix q) (ix m') (ix i) ++ [ix i] else own_sc s (ix q) (ix m') (ix i) := by rw [nx1]; rfl
    refine c22_43 _ _ _ _ _ _ _ ⟨fun _ => ⟨fun lt => c8_in _ _ _ _ ⟨ib, fun z => ?_, fun z => own_i9 u _ i ib hfd _ ⟨fun y => ?_, fun y => ?_⟩⟩, fun nl => fin n u ?_ ?_⟩, fun w => absurd (by rw [i32_lt]; exact i1) w⟩
    · rw [ei, u6] at z
      exact skip (by rw [stp, if_neg (fun w => w.1 z)])
    · rw [ei, pku] at y
      exact skip (by rw [stp, if_neg (fun w => w.2.1 y)])
    · rw [ei, u6] at z
      rw [ei, pku] at y
      rw [i32_lt, en] at lt
      have ap : own_sc s (ix q) (ix m') (ix (i + 1)) = own_sc s (ix q) (ix m') (ix i) ++ [ix i] := by rw [stp, if_pos ⟨z, y, by omega⟩]
      generalize own_sc s (ix q) (ix m') (ix i) = l at *
      have n0 : 0 ≤ n.toInt := by omega
      have xn := ix_int n0
      have nl : ix n = l.length := by omega
      have nb : inb 16 n := ⟨n0, by show _ < (16 : Int); omega⟩
      have en1 : (n + 1).toInt = n.toInt + 1 := by rw [i32_add] <;> simp <;> omega
      rw [ei, pku]
      refine ⟨nb, nb, ?_⟩
      generalize hv : sI (sI u 10 (ix n) i) 11 (ix n) (own_pk s (16 * ix q + ix i) (ix i)) = v
      have vc : ∀ c j, c ≠ 10 → c ≠ 11 → gI v c j = gI u c j := fun c j a b => by subst hv; rw [gI_sI, if_neg (fun w => b w.1), gI_sI, if_neg (fun w => a w.1)]
      have v10 : ∀ j, gI v 10 j = if j = ix n then i else gI u 10 j := fun j => by subst hv; simp [gI_sI]
      have v11 : ∀ j, gI v 11 j = if j = ix n then own_pk s (16 * ix q + ix i) (ix i) else gI u 11 j := fun j => by subst hv; simp [gI_sI]
      clear hv
      have nx : ∀ t, (∀ c j, ¬ ((c = 8 ∨ c = 9) ∧ j = 16 * ix q + ix i) → gI t c j = gI v c j) → own_cs s t (16 * ix q + ix i) → wpcI PP 22 cm22 11 123 [some (.ref 0), some (.int q), none, some (.int m'), some (.int (n + 1)), some (.int 4), some (.int i), none, none] [] t Q := fun t tc tcs => by
        refine c22_123 _ _ _ _ _ _ _ (ih (n + 1) t ?_ (by rw [ap, en1, en]; simp))
        rw [ap]
        refine ⟨fun c j a b d e f => by rw [tc c j (by omega), vc c j d e]; exact W1' c j a b d e f, fun q' f' h1 h2 h3 => ?_, fun f' hf => ?_, fun j hj => ?_⟩
        · have ne : 16 * q' + f' ≠ 16 * ix q + ix i := by
            rcases h3 with w | w
            · omega
            · simp at w; omega
          rw [tc 8 _ (by omega), tc 9 _ (by omega), vc 8 _ (by decide) (by decide), vc 9 _ (by decide) (by decide)]
          exact W2 q' f' h1 h2 (h3.imp id fun w y => w (List.mem_append.mpr (Or.inl y)))
        · rcases List.mem_append.mp hf with w | w
          · have ne : f' ≠ ix i := fun y => nin (by rw [← y]; exact w)
            have := W3 f' w
            unfold own_cs at this ⊢
            rw [tc 8 _ (by omega), tc 9 _ (by omega), vc 8 _ (by decide) (by decide), vc 9 _ (by decide) (by decide)]
            exact this
          · simp at w; rw [w]; exact tcs
        · rw [tc 10 _ (by omega), tc 11 _ (by omega), v10, v11]
          by_cases y : j < l.length
          · rw [if_neg (by omega), if_neg (by omega), List.getElem_append_left y]
            exact W4 j y
          · have hj' : j = l.length := by simp at hj; omega
            subst hj'
            rw [if_pos nl.symm, if_pos nl.symm, List.getElem_append_right (Nat.le_refl _)]
            simp
            exact xi.symm
      apply c23_in
      rw [ei, vc 7 _ (by decide) (by decide), u7]
      refine ⟨ib, fun a => ⟨ib, fun b => nx v (fun _ _ _ => rfl) ?_, fun b => ⟨ib, nx _ (fun c j w => by rw [gI_sI, if_neg (by omega)]) ?_⟩⟩, fun a => ⟨ib, ib, nx _ (fun c j w => by rw [gI_sI, if_neg (by omega), gI_sI, if_neg (by omega)]) ?_⟩⟩
      · unfold own_cs
        rw [if_pos a, vc 8 _ (by decide) (by decide), eu.1]
        exact ⟨rfl, fun w => absurd b w⟩
      · unfold own_cs
        rw [if_pos a, gI_sI, if_neg (by omega), vc 8 _ (by decide) (by decide), eu.1]
        exact ⟨rfl, fun _ => by simp [gI_sI]⟩
      · unfold own_cs
        rw [if_neg a]; simp [gI_sI]
    · rw [i32_lt, en] at nl
      rw [own_sc_full s _ _ (f := ix i) (by omega) 4 (by omega)]
      exact W
    · rw [i32_lt, en] at nl
      rw [own_sc_full s _ _ (f := ix i) (by omega) 4 (by omega)]
      exact en
  · have xi := ix_int (i := i) (by omega)
    have i4 : ix i = 4 := by omega
    rw [i4] at W en
    exact c22_43 _ _ _ _ _ _ _ ⟨fun w => absurd w (by rw [i32_lt, hi]; decide), fun _ => fin n u W en⟩

def own_ct (f : Nat → Bool) : Nat → Nat
  | 0 => 0
  | n + 1 => own_ct f n + (if f n then 1 else 0)
theorem own_ct_le {f : Nat → Bool} : ∀ n, own_ct f n ≤ n
  | 0 => Nat.le_refl _
  | n + 1 => by
    show own_ct f n + _ ≤ _
    have := own_ct_le (f := f) n
    split <;> omega
/-- is an event there -/
def own_ev (s : St) (q f : Nat) : Bool := gI s 6 (16 * q + f) != 0 && own_pk s (16 * q + f) f != 0
/-- readyCount -/
theorem own_i30 (s : St) (B : own_B s) (q : Int32) (hq : 0 ≤ q.toInt ∧ q.toInt < 2) (Q : Int32 → St → Prop) (h : ∀ v : Int32, v.toInt = own_ct (own_ev s (ix q)) 4 → Q v s) : calI PP 30 11 [.ref 0, .int q] s Q := by
  have e4 : (2 : Int32) * gI s 0 17 = 4 := by rw [B.1]; decide
  apply c30_in
  refine own_i6 s B q hq _ ⟨fun w => absurd w (by decide), fun _ => ?_⟩
  rw [e4]
  refine loop_up (F := fun i => ∀ v : Int32, v.toInt = own_ct (own_ev s (ix q)) (ix i) → wpcI PP 30 cm30 11 22 [some (.ref 0), some (.int q), some (.int v), some (.int 4), some (.int i), none] [] s Q) 4 (by decide) (fun i i0 i1 e ih v hv => ?_) (fun i hi v hv => ?_) 0 (by decide) (by decide) 0 rfl
  · have xi := ix_int i0
    have xj := ix_int (i := i + 1) (by omega)
    obtain ⟨ib, ei⟩ := own_sx hq (fd := i) ⟨i0, i1⟩
    have le := own_ct_le (f := own_ev s (ix q)) (ix i)
    have st : own_ct (own_ev s (ix q)) (ix (i + 1)) = own_ct (own_ev s (ix q)) (ix i) + (if own_ev s (ix q) (ix i) then 1 else 0) := by rw [show ix (i + 1) = ix i + 1 by omega]; rfl
    have e1 : (v + 1).toInt = v.toInt + 1 := by rw [i32_add] <;> simp <;> omega
    refine c30_22 _ _ _ _ _ _ ⟨fun _ => c8_in _ _ _ _ ⟨ib, fun z => c30_61 _ _ _ _ _ _ (ih v ?_), fun z => own_i9 s _ i ib ⟨i0, i1⟩ _ fun m em => c30_61 _ _ _ _ _ _ (ih m ?_)⟩, fun w => absurd (by rw [i32_lt]; exact i1) w⟩
    · rw [ei] at z
      rw [st, hv, show own_ev s (ix q) (ix i) = false by unfold own_ev; rw [z]; rfl]; rfl
    · rw [ei] at z em
      by_cases y : own_pk s (16 * ix q + ix i) (ix i) = 0
      · rw [em, if_pos y, st, hv, show own_ev s (ix q) (ix i) = false by unfold own_ev; rw [y]; simp]; rfl
      · rw [em, if_neg y, st, e1, hv, show own_ev s (ix q) (ix i) = true by unfold own_ev; simp [z, y]]; rfl
  · have i4 : ix i = 4 := by have := ix_int (i := i) (by omega); omega
    rw [i4] at hv
    exact c30_22 _ _ _ _ _ _ ⟨fun w => absurd w (by rw [i32_lt, hi]; decide), fun _ => h v hv⟩
/-- words -/
theorem own_wd {w : Int32} (h : w &&& (-52) = 0) : (¬ w < 0) ∧ w &&& 64 = 0 ∧ (¬ (w ||| 64) < 0) ∧ (w ||| 64) &&& 64 ≠ 0 := by
  have hb : ∀ j, 6 ≤ j → j < 32 → own_bt w j = false := fun j h6 h32 => by
    have k : ∀ j : Fin 32, 6 ≤ j.val → own_bt (-52) j.val = true := by decide
    have z := congrArg (fun y => own_bt y j) h
    simp only [own_bt_and, own_bt_0, k ⟨j, h32⟩ h6, Bool.and_true] at z
    exact z
  have b63 : ∀ j : Fin 32, own_bt 63 j.val = decide (j.val < 6) := by decide
  have e : w &&& 63 = w := own_bt_ext fun j hj => by
    rw [own_bt_and, b63 ⟨j, hj⟩]
    by_cases l : j < 6
    · simp [l]
    · rw [hb j (by omega) hj]; rfl
  have m := Jvm.Kit.i32_mask w 63 (k := 6) (by decide) (by decide)
  have p : ((2 : Int) ^ 6) = 64 := by decide
  rw [e, p] at m
  have w0 : 0 ≤ w.toInt := by omega
  have xw := ix_int w0
  have key : ∀ n : Fin 64, (¬ Int32.ofNat n.val < 0) ∧ Int32.ofNat n.val &&& 64 = 0 ∧ (¬ (Int32.ofNat n.val ||| 64) < 0) ∧ (Int32.ofNat n.val ||| 64) &&& 64 ≠ 0 := by decide
  have := key ⟨ix w, by omega⟩
  rw [← own_i32 w w0] at this
  exact this
theorem own_wa12 (w : Int32) : (w &&& 3) ||| 12 = own_wa w := by
  unfold own_wa
  apply own_bt_ext
  intro j hj
  have h1 : ∀ x y : Int32, own_bt (x ||| y) j = (own_bt x j || own_bt y j) := fun x y => by simp [own_bt]
  have k : ∀ j : Fin 32, own_bt 12 j.val = (own_bt 4 j.val || own_bt 8 j.val) := by decide
  rw [h1, h1, h1, k ⟨j, hj⟩, Bool.or_assoc]
/-- expect, as the class answers -/
theorem own_exq (L : Nat) (sg : Nat → Int32) {s : St} {P : Nat → Nat → Int32} (E : own_E s P) {q f : Nat} (hq : q < 2) (hf : f < 4) (o : own_op s f ≠ 0) (r : gI s 6 (16 * q + f) ≠ 0) (Q : Int32 → Wd → Prop) (h : Q (own_pk s (16 * q + f) f) (W1 s)) : lalI PP QQ (some (L, sg)) 8 [.int (if gI s 8 (16 * q + f) = 0 then gI s 7 (16 * q + f) ||| 64 else gI s 7 (16 * q + f)), .int (own_rd s f), .int (P q f)] (W1 s) Q := by
  obtain ⟨_, wv, ed⟩ := E q f hq hf r
  obtain ⟨w1, w2, w3, w4⟩ := own_wd wv
  unfold own_pk at h
  rw [own_rd_op o]
  apply l8W1_in
  by_cases e : gI s 8 (16 * q + f) = 0
  · rw [if_pos e] at h ⊢
    exact ⟨fun y => absurd y w3, fun _ => ⟨fun y => absurd y w4, fun _ => h⟩⟩
  · rw [if_neg e] at h ⊢
    rw [own_wa12]
    refine ⟨fun y => absurd y w1, fun _ => ⟨fun _ => ⟨fun y => ?_, fun y => ?_⟩, fun y => absurd w2 y⟩⟩
    · rw [if_pos y] at h; exact h
    · rw [if_neg y, ed e y] at h; exact h
theorem own_exn (L : Nat) (sg : Nat → Int32) (s : St) (r n : Int32) (Q : Int32 → Wd → Prop) (h : Q 0 (W1 s)) : lalI PP QQ (some (L, sg)) 8 [.int (-1), .int r, .int n] (W1 s) Q := l8W1_in _ _ _ _ _ _ _ ⟨fun _ => h, fun y => absurd (by decide) y⟩
/-- the packed readiness -/
def own_pc (a b c d : Int32) : Int32 := (((((0 : Int32) ||| (a <<< (((4 : Int32) * 0) &&& 31))) ||| (b <<< ((4 * (0 + 1)) &&& 31))) ||| (c <<< ((4 * (0 + 1 + 1)) &&& 31))) ||| (d <<< ((4 * (0 + 1 + 1 + 1)) &&& 31)))
theorem own_pc_at : ∀ a ∈ [(0 : Int32), 1, 2, 5, 10], ∀ b ∈ [(0 : Int32), 1, 2, 5, 10], ∀ c ∈ [(0 : Int32), 1, 2, 5, 10], ∀ d ∈ [(0 : Int32), 1, 2, 5, 10], Jvm.Free.XT.ushr (own_pc a b c d) (4 * 0) &&& 15 = a ∧ Jvm.Free.XT.ushr (own_pc a b c d) (4 * 1) &&& 15 = b ∧ Jvm.Free.XT.ushr (own_pc a b c d) (4 * 2) &&& 15 = c ∧ Jvm.Free.XT.ushr (own_pc a b c d) (4 * 3) &&& 15 = d := by decide +kernel
theorem own_rd_v (s : St) (f : Nat) : own_rd s f ∈ [(0 : Int32), 1, 2, 5, 10] := by
  unfold own_rd
  split
  · decide
  · exact own_ry_v s f
def own_all (s : St) : Int32 := own_pc (own_rd s 0) (own_rd s 1) (own_rd s 2) (own_rd s 3)
theorem own_all_at (s : St) (k : Int32) (h : 0 ≤ k.toInt ∧ k.toInt < 4) : Jvm.Free.XT.ushr (own_all s) (4 * k) &&& 15 = own_rd s (ix k) := by
  obtain ⟨a, b, c, d⟩ := own_pc_at _ (own_rd_v s 0) _ (own_rd_v s 1) _ (own_rd_v s 2) _ (own_rd_v s 3)
  have xk := ix_int h.1
  have e := own_i32 k h.1
  have : ix k = 0 ∨ ix k = 1 ∨ ix k = 2 ∨ ix k = 3 := by omega
  rcases this with w | w | w | w <;> rw [w] at e ⊢ <;> rw [e]
  · exact a
  · exact b
  · exact c
  · exact d
theorem own_l5 (L : Nat) (sg : Nat → Int32) (s : St) (B : own_B s) (Q : Int32 → Wd → Prop) (h : Q (own_all s) (W1 s)) : lalI PP QQ (some (L, sg)) 5 [.ref 1] (W1 s) Q := by
  apply l5r1W1_in
  refine l5r1W1_4 _ _ _ _ _ _ ⟨fun _ => own_l4 L sg s B _ (by decide) _ ⟨s, rfl, ?_⟩, fun w => absurd (by decide) w⟩
  refine l5r1W1_4 _ _ _ _ _ _ ⟨fun _ => own_l4 L sg s B _ (by decide) _ ⟨s, rfl, ?_⟩, fun w => absurd (by decide) w⟩
  refine l5r1W1_4 _ _ _ _ _ _ ⟨fun _ => own_l4 L sg s B _ (by decide) _ ⟨s, rfl, ?_⟩, fun w => absurd (by decide) w⟩
  refine l5r1W1_4 _ _ _ _ _ _ ⟨fun _ => own_l4 L sg s B _ (by decide) _ ⟨s, rfl, ?_⟩, fun w => absurd (by decide) w⟩
  exact l5r1W1_4 _ _ _ _ _ _ ⟨fun w => absurd w (by decide), fun _ => h⟩
/-- the law's nibbles -/
def own_N (x : Int64) (q f : Nat) : Int32 := Int64.toInt32 (own_nb x (Int32.ofNat (4 * q + f)))
theorem own_t32 (v : Int32) : Int64.toInt32 (Int32.toInt64 v) = v := by
  apply Int32.toInt_inj.mp
  have r := rng32 v
  have e := Jvm.Kit.i64_of_i32 v
  rw [Jvm.Kit.i32_of_i64, e]
  · rw [e]; have : (2 : Int) ^ 31 = 2147483648 := by decide
    omega
  · rw [e]; have : (2 : Int) ^ 31 = 2147483648 := by decide
    omega
theorem own_a15 (x : Int32) : 0 ≤ (x &&& 15).toInt ∧ (x &&& 15).toInt < 16 := by
  have m := Jvm.Kit.i32_mask x 15 (k := 4) (by decide) (by decide)
  have e : ((2 : Int) ^ 4) = 16 := by decide
  rw [m, e]; omega
theorem own_N_set (x : Int64) (k v : Int32) (hk : 0 ≤ k.toInt ∧ k.toInt < 8) {q f : Nat} (hq : q < 2) (hf : f < 4) : own_N (own_ns4 x k (v &&& 15)) q f = if 4 * q + f = ix k then v &&& 15 else own_N x q f := by
  obtain ⟨a, b⟩ := own_a15 v
  have xk := ix_int hk.1
  have e : (Int32.ofNat (4 * q + f)).toInt = ((4 * q + f : Nat) : Int) := Int32.toInt_ofNat_of_lt (by omega)
  unfold own_N
  rw [own_nb_set x k (v &&& 15) hk.1 (by omega) a b _ (by omega) (by omega)]
  by_cases y : 4 * q + f = ix k
  · rw [if_pos y, if_pos (Int32.toInt_inj.mp (by rw [e]; omega)), own_t32]
  · rw [if_neg y, if_neg (fun w => y (by rw [w] at e; omega))]

theorem own_l6 (L : Nat) (sg : Nat → Int32) (x : Int64) (k : Int32) (s : St) (q f : Nat) (hk : k = Int32.ofNat (4 * q + f)) (Q : Int32 → Wd → Prop) (h : Q (own_N x q f) (W1 s)) : lalI PP QQ (some (L, sg)) 6 [.long x, .int k] (W1 s) Q := by
  subst hk; exact l6W1_in _ _ _ _ _ _ h
theorem own_l7 (L : Nat) (sg : Nat → Int32) (x : Int64) (k v : Int32) (s : St) (Q : Int64 → Wd → Prop) (h : Q (own_ns4 x k (v &&& 15)) (W1 s)) : lalL PP QQ (some (L, sg)) 7 [.long x, .int k, .int v] (W1 s) Q := l7W1_in _ _ _ _ _ _ _ h
theorem own_kq (q fd : Int32) (hq : 0 ≤ q.toInt ∧ q.toInt < 2) (h : 0 ≤ fd.toInt ∧ fd.toInt < 4) : q * 4 + fd = Int32.ofNat (4 * ix q + ix fd) ∧ (q * 4 + fd).toInt = 4 * q.toInt + fd.toInt := by
  have xq := ix_int hq.1
  have xf := ix_int h.1
  have e1 : (q * 4).toInt = q.toInt * 4 := by rw [i32_mul] <;> simp <;> omega
  have e2 : (q * 4 + fd).toInt = q.toInt * 4 + fd.toInt := by rw [i32_add] <;> rw [e1] <;> omega
  have e3 : (Int32.ofNat (4 * ix q + ix fd)).toInt = ((4 * ix q + ix fd : Nat) : Int) := Int32.toInt_ofNat_of_lt (by omega)
  exact ⟨Int32.toInt_inj.mp (by rw [e2, e3]; omega), by omega⟩
theorem own_E_x {s : St} {P P' : Nat → Nat → Int32} (E : own_E s P) (h : ∀ q f, q < 2 → f < 4 → P' q f = P q f) : own_E s P' := fun q f hq hf r => by rw [h q f hq hf]; exact E q f hq hf r
/-- the questions at the end of a turn -/
theorem own_ask (L : Nat) (sg : Nat → Int32) (x : Int64) (x4 : Int32) (s : St) (B : own_B s) (E : own_E s (own_N x)) (h : wplI PP QQ (some (L, sg)) 0 lm0 26 [some (.ref 0), some (.ref 1), some (.long x), none, some (.int (x4 + 3)), none, none, none, none, none, none, none, none, none, none, none, none, none, none, none, none, none] [] (W1 s) (fun v _ => v = 1)) : wplI PP QQ (some (L, sg)) 0 lm0 614 [some (.ref 0), some (.ref 1), some (.long x), none, some (.int x4), none, none, none, none, none, none, none, none, none, none, none, none, none, none, none, none, none] [] (W1 s) (fun v _ => v = 1) := by
  apply l0_614
  refine loop_up (F := fun q => wplI PP QQ (some (L, sg)) 0 lm0 617 [some (.ref 0), some (.ref 1), some (.long x), none, some (.int x4), none, none, none, none, none, none, none, none, none, none, none, none, some (.int q), none, none, none, none] [] (W1 s) (fun v _ => v = 1)) 2 (by decide) (fun q q0 q1 e ih => ?_) (fun q hq => l0_617 _ _ _ _ _ _ ⟨fun w => absurd w (by rw [i32_lt, hq]; decide), fun _ => h⟩) 0 (by decide) (by decide)
  have hq : 0 ≤ q.toInt ∧ q.toInt < 2 := ⟨q0, q1⟩
  have xq := ix_int q0
  refine l0_617 _ _ _ _ _ _ ⟨fun _ => ?_, fun w => absurd (by rw [i32_lt]; exact q1) w⟩
  refine loop_up (F := fun f => ∀ c : Int32, c.toInt = own_ct (own_ev s (ix q)) (ix f) → wplI PP QQ (some (L, sg)) 0 lm0 629 [some (.ref 0), some (.ref 1), some (.long x), none, some (.int x4), none, none, none, none, none, none, none, none, none, none, none, none, some (.int q), some (.int c), some (.int f), none, none] [] (W1 s) (fun v _ => v = 1)) 4 (by decide) (fun f f0 f1 e ihf c hc => ?_) (fun f hf c hc => ?_) 0 (by decide) (by decide) 0 rfl
  · have hf : 0 ≤ f.toInt ∧ f.toInt < 4 := ⟨f0, f1⟩
    have xf := ix_int f0
    have xf1 := ix_int (i := f + 1) (by omega)
    obtain ⟨kq, _⟩ := own_kq q f hq hf
    have le := own_ct_le (f := own_ev s (ix q)) (ix f)
    have st : own_ct (own_ev s (ix q)) (ix (f + 1)) = own_ct (own_ev s (ix q)) (ix f) + (if own_ev s (ix q) (ix f) then 1 else 0) := by rw [show ix (f + 1) = ix f + 1 by omega]; rfl
    have e1 : (c + 1).toInt = c.toInt + 1 := by rw [i32_add] <;> simp <;> omega
    refine l0_629 _ _ _ _ _ _ _ _ ⟨fun _ => own_i28 s B q f hq hf _ (fun a => ?_) (fun o r => ?_), fun w => absurd (by rw [i32_lt]; exact f1) w⟩
    · have z : gI s 6 (16 * ix q + ix f) = 0 := Classical.byContradiction fun r => by
        rcases a with w | w
        · exact (E (ix q) (ix f) (by omega) (by omega) r).1 w
        · exact r w
      refine own_l4 L sg s B f hf _ ⟨s, rfl, own_l6 L sg x _ s (ix q) (ix f) kq _ ⟨s, rfl, own_exn L sg s _ _ _ ⟨s, rfl, own_i29 s B q f hq hf _ (fun _ m em => ?_) (fun _ r => absurd z r)⟩⟩⟩
      rw [if_pos (by decide)] at em
      subst em
      refine ⟨fun _ m em => ihf m ?_, fun y => absurd rfl y⟩
      rw [em, if_pos rfl, st, hc, show own_ev s (ix q) (ix f) = false by unfold own_ev; rw [z]; rfl]; rfl
    · refine own_l4 L sg s B f hf _ ⟨s, rfl, own_l6 L sg x _ s (ix q) (ix f) kq _ ⟨s, rfl, own_exq L sg E (by omega) (by omega) o r _ ⟨s, rfl, own_i29 s B q f hq hf _ (fun a => ?_) (fun _ _ m em => ?_)⟩⟩⟩
      · rcases a with w | w
        · exact absurd w o
        · exact absurd w r
      · obtain ⟨_, wv, _⟩ := E (ix q) (ix f) (by omega) (by omega) r
        obtain ⟨w1, _, w3, _⟩ := own_wd wv
        rw [if_neg (by split <;> assumption)] at em
        subst em
        refine ⟨fun _ m em => ihf m ?_, fun y => absurd rfl y⟩
        by_cases y : own_pk s (16 * ix q + ix f) (ix f) = 0
        · rw [em, if_pos y, st, hc, show own_ev s (ix q) (ix f) = false by unfold own_ev; rw [y]; simp]; rfl
        · rw [em, if_neg y, st, e1, hc, show own_ev s (ix q) (ix f) = true by unfold own_ev; simp [r, y]]; rfl
  · have f4 : ix f = 4 := by have := ix_int (i := f) (by omega); omega
    rw [f4] at hc
    exact l0_629 _ _ _ _ _ _ _ _ ⟨fun w => absurd w (by rw [i32_lt, hf]; decide), fun _ => own_i30 s B q hq _ fun v hv => ⟨fun _ => ih, fun y => absurd (Int32.toInt_inj.mp (by rw [hv, hc])) y⟩⟩
theorem own_al3 (v n o : Int32) (h : n &&& 15 = n) : ((v &&& n) ||| (n &&& o)) &&& 15 = (v &&& n) ||| (n &&& o) := by
  apply own_bt_ext
  intro j hj
  have h1 : ∀ x y : Int32, own_bt (x ||| y) j = (own_bt x j || own_bt y j) := fun x y => by simp [own_bt]
  have z := congrArg (fun y => own_bt y j) h
  simp only [own_bt_and] at z
  simp only [h1, own_bt_and]
  cases e1 : own_bt n j
  · simp
  · rw [e1] at z; simp at z; simp [z]
theorem own_rd15 (s : St) (f : Nat) : own_rd s f &&& 15 = own_rd s f := by
  have k : ∀ x : Int32, x ∈ [(0 : Int32), 1, 2, 5, 10] → x &&& 15 = x := fun x hx => by
    simp at hx
    rcases hx with rfl | rfl | rfl | rfl | rfl <;> decide
  exact k _ (own_rd_v s f)
theorem own_m3 (r : Int32) (h : 0 ≤ r.toInt ∧ r.toInt < 8) : (0 ≤ (r &&& 3).toInt ∧ (r &&& 3).toInt < 4) ∧ ix (r &&& 3) = ix r % 4 := by
  have m := Jvm.Kit.i32_mask r 3 (k := 2) (by decide) (by decide)
  have e : ((2 : Int) ^ 2) = 4 := by decide
  rw [e] at m
  have xr := ix_int h.1
  have a : 0 ≤ (r &&& 3).toInt := by omega
  have xa := ix_int a
  exact ⟨by omega, by omega⟩
/-- the nibbles are brought up to date -/
theorem own_410 (L : Nat) (sg : Nat → Int32) (x : Int64) (x4 o q fd x11 : Int32) (x12 : Int64) (x14 x15 : Int32) (s t : St) (Bt : own_B t) (hn : ∀ y : Int64, (∀ a f, a < 2 → f < 4 → own_N y a f = own_pu (own_N x) s t a f) → (o = 6 ∨ o = 7 → wplI PP QQ (some (L, sg)) 0 lm0 491 [some (.ref 0), some (.ref 1), some (.long y), none, some (.int x4), some (.int o), none, none, some (.int q), some (.int fd), none, some (.int x11), some (.long x12), none, some (.int x14), some (.int x15), some (.int (own_all t)), none, none, none, none, none] [] (W1 t) (fun v _ => v = 1)) ∧ (¬ (o = 6 ∨ o = 7) → wplI PP QQ (some (L, sg)) 0 lm0 518 [some (.ref 0), some (.ref 1), some (.long y), none, some (.int x4), some (.int o), none, none, some (.int q), none, none, some (.int x11), some (.long x12), none, some (.int x14), some (.int x15), none, none, none, none, none, none] [] (W1 t) (fun v _ => v = 1))) : wplI PP QQ (some (L, sg)) 0 lm0 401 [some (.ref 0), some (.ref 1), some (.long x), none, some (.int x4), some (.int o), none, none, some (.int q), some (.int fd), some (.int (own_all s)), some (.int x11), some (.long x12), none, some (.int x14), some (.int x15), none, none, none, none, none, none] [] (W1 t) (fun v _ => v = 1) := by
  refine l0_401 _ _ _ _ _ _ _ _ _ _ _ _ _ (own_l5 L sg t Bt _ ⟨t, rfl, ?_⟩)
  refine loop_up (F := fun r => ∀ y : Int64, (∀ a f, a < 2 → f < 4 → own_N y a f = if 4 * a + f < ix r then own_pu (own_N x) s t a f else own_N x a f) → wplI PP QQ (some (L, sg)) 0 lm0 410 [some (.ref 0), some (.ref 1), some (.long y), none, some (.int x4), some (.int o), none, none, some (.int q), some (.int fd), some (.int (own_all s)), some (.int x11), some (.long x12), none, some (.int x14), some (.int x15), some (.int (own_all t)), some (.int r), none, none, none, none] [] (W1 t) (fun v _ => v = 1)) 8 (by decide) (fun r r0 r1 e ih y hy => ?_) (fun r hr y hy => ?_) 0 (by decide) (by decide) x (fun a f _ _ => by rw [if_neg (by simp [ix])])
  · have xr := ix_int r0
    have xr1 := ix_int (i := r + 1) (by omega)
    obtain ⟨h3, i3⟩ := own_m3 r ⟨r0, r1⟩
    have er : r = Int32.ofNat (4 * (ix r / 4) + ix r % 4) := by rw [show 4 * (ix r / 4) + ix r % 4 = ix r by omega]; exact own_i32 r r0
    refine l0_410 _ _ _ _ _ _ _ _ _ _ _ _ _ _ _ ⟨fun _ => own_l6 L sg y r t _ _ er _ ⟨t, rfl, ?_⟩, fun w => absurd (by rw [i32_lt]; exact r1) w⟩
    rw [own_all_at t _ h3, own_all_at s _ h3, i3]
    refine own_l7 L sg y r _ t _ ⟨t, rfl, ih _ fun a f ha hf => ?_⟩
    rw [own_N_set y r _ ⟨r0, r1⟩ ha hf]
    by_cases w : 4 * a + f = ix r
    · have fa : f = ix r % 4 := by omega
      have aa : a = ix r / 4 := by omega
      rw [if_pos w, if_pos (by omega), own_al3 _ _ _ (own_rd15 t _), hy _ _ (by omega) (by omega), if_neg (by omega), fa, aa]
      rfl
    · rw [if_neg w, hy a f ha hf]
      by_cases z : 4 * a + f < ix r
      · rw [if_pos z, if_pos (by omega)]
      · rw [if_neg z, if_neg (by omega)]
  · have xr := ix_int (i := r) (by omega)
    have hN : ∀ a f, a < 2 → f < 4 → own_N y a f = own_pu (own_N x) s t a f := fun a f ha hf => by rw [hy a f ha hf, if_pos (by omega)]
    obtain ⟨g1, g2⟩ := hn y hN
    refine l0_410 _ _ _ _ _ _ _ _ _ _ _ _ _ _ _ ⟨fun w => absurd w (by rw [i32_lt, hr]; decide), fun _ => ⟨fun w => g1 (Or.inl w), fun w6 => ⟨fun w => g1 (Or.inr w), fun w7 => g2 fun w => w.elim w6 w7⟩⟩⟩

theorem own_E_wi {s t : St} {P : Nat → Nat → Int32} (B : own_B s) (E : own_E s P) {q : Nat} {l : List Nat} (W : own_wi s t q 4 l) : own_B t ∧ own_E t (fun a f => if a = q ∧ f ∈ l then 0 else own_pu P s t a f) := by
  obtain ⟨W1, W2, W3, W4⟩ := W
  have ts : ∀ c j, c ≠ 8 → c ≠ 9 → c ≠ 10 → c ≠ 11 → ¬ (c = 0 ∧ j = 31) → gI t c j = gI s c j := W1
  have op : ∀ f, own_op t f = own_op s f := own_op_cg (fun j => ts 1 j (by decide) (by decide) (by decide) (by decide) (by omega)) (fun j => ts 2 j (by decide) (by decide) (by decide) (by decide) (by omega))
  have ry : ∀ f, own_ry t f = own_ry s f := fun f => own_ry_cg f (ts 0 _ (by decide) (by decide) (by decide) (by decide) (by omega)) (ts 1 _ (by decide) (by decide) (by decide) (by decide) (by omega)) (ts 2 _ (by decide) (by decide) (by decide) (by decide) (by omega)) (ts 5 _ (by decide) (by decide) (by decide) (by decide) (by omega))
  refine ⟨⟨by rw [ts 0 _ (by decide) (by decide) (by decide) (by decide) (by omega)]; exact B.1, by rw [ts 0 _ (by decide) (by decide) (by decide) (by decide) (by omega)]; exact B.2.1, by rw [ts 0 _ (by decide) (by decide) (by decide) (by decide) (by omega)]; exact B.2.2.1, fun p hp => by rw [ts 1 _ (by decide) (by decide) (by decide) (by decide) (by omega), ts 2 _ (by decide) (by decide) (by decide) (by decide) (by omega)]; exact B.2.2.2 p hp⟩, fun a f ha hf r => ?_⟩
  rw [ts 6 _ (by decide) (by decide) (by decide) (by decide) (by omega)] at r
  have t7 := ts 7 (16 * a + f) (by decide) (by decide) (by decide) (by decide) (by omega)
  show own_op t f ≠ 0 ∧ _ ∧ (_ → _ → gI t 9 (16 * a + f) = (own_ry t f &&& own_wa (gI t 7 (16 * a + f))) &&& (if a = q ∧ f ∈ l then 0 else own_pu P s t a f))
  by_cases y : a = q ∧ f ∈ l
  · obtain ⟨rfl, hl⟩ := y
    have c := W3 f hl
    obtain ⟨o, w, _⟩ := E a f ha hf r
    rw [if_pos ⟨rfl, hl⟩, op, t7]
    refine ⟨o, w, fun e1 e2 => ?_⟩
    unfold own_cs at c
    by_cases z : gI s 7 (16 * a + f) &&& 32 = 0
    · rw [if_pos z] at c
      rw [c.2 e2]; simp
    · rw [if_neg z] at c
      exact absurd c e1
  · rw [if_neg y]
    have e := W2 a f ha hf (by
      by_cases z : a = q
      · exact Or.inr fun w => y ⟨z, w⟩
      · exact Or.inl z)
    exact own_E_one E ha hf r (op f) t7 e.1 e.2 (ry f)
/-- masks fit four bits -/
theorem own_pk15 {s : St} {P : Nat → Nat → Int32} (E : own_E s P) {q f : Nat} (hq : q < 2) (hf : f < 4) (r : gI s 6 (16 * q + f) ≠ 0) : 0 ≤ (own_pk s (16 * q + f) f).toInt ∧ (own_pk s (16 * q + f) f).toInt < 16 := by
  have rb : ∀ j, 4 ≤ j → j < 32 → own_bt (own_ry s f) j = false := fun j h4 h32 => by
    have m := own_ry_v s f
    have k : ∀ j : Fin 32, 4 ≤ j.val → own_bt 0 j.val = false ∧ own_bt 1 j.val = false ∧ own_bt 2 j.val = false ∧ own_bt 5 j.val = false ∧ own_bt 10 j.val = false := by decide
    obtain ⟨k0, k1, k2, k3, k4⟩ := k ⟨j, h32⟩ h4
    simp at m
    rcases m with w | w | w | w | w <;> rw [w]
    · exact k0
    · exact k1
    · exact k2
    · exact k3
    · exact k4
  have e : own_pk s (16 * q + f) f &&& 15 = own_pk s (16 * q + f) f := by
    apply own_bt_ext
    intro j hj
    rw [own_bt_and, own_bt_15 j hj]
    by_cases l : j < 4
    · simp [l]
    · have z : own_bt (own_pk s (16 * q + f) f) j = false := by
        unfold own_pk
        by_cases e8 : gI s 8 (16 * q + f) = 0
        · rw [if_pos e8]; exact own_bt_0 j
        · rw [if_neg e8]
          by_cases e7 : gI s 7 (16 * q + f) &&& 16 = 0
          · rw [if_pos e7, own_bt_and, rb j (by omega) hj]; rfl
          · rw [if_neg e7, (E q f hq hf r).2.2 e8 e7, own_bt_and, own_bt_and, rb j (by omega) hj]; rfl
      rw [z]; rfl
  rw [← e]; exact own_a15 _
/-- an event in six bits -/
def own_c6 (f : Nat) (v : Int32) : Int32 := Int32.ofNat f ||| (v <<< ((2 : Int32) &&& 31))
theorem own_c6_v {f : Nat} {v : Int32} (hf : f < 4) (hv : 0 ≤ v.toInt ∧ v.toInt < 16) : (0 ≤ (own_c6 f v).toInt ∧ (own_c6 f v).toInt < 64) ∧ own_c6 f v &&& 3 = Int32.ofNat f ∧ Jvm.Free.XT.ushr (own_c6 f v) 2 = v := by
  have xv := ix_int hv.1
  have key : ∀ a : Fin 4, ∀ n : Fin 16, (0 ≤ (own_c6 a.val (Int32.ofNat n.val)).toInt ∧ (own_c6 a.val (Int32.ofNat n.val)).toInt < 64) ∧ own_c6 a.val (Int32.ofNat n.val) &&& 3 = Int32.ofNat a.val ∧ Jvm.Free.XT.ushr (own_c6 a.val (Int32.ofNat n.val)) 2 = Int32.ofNat n.val := by decide +kernel
  have := key ⟨f, hf⟩ ⟨ix v, by omega⟩
  simp only at this
  rw [← own_i32 v hv.1] at this
  exact this
theorem own_bl_s64 (v : Int32) (h : 0 ≤ v.toInt ∧ v.toInt < 64) (j : Nat) (hj : 6 ≤ j) : own_bl (Int32.toInt64 v) j = false := by
  have k := ix_int h.1
  have hn : ix v < 64 := by omega
  have key : ∀ n : Fin 64, (Int32.ofNat n.val).toInt64.toBitVec = BitVec.ofNat 64 n.val := by decide
  have := key ⟨ix v, hn⟩
  rw [← own_i32 v h.1] at this
  unfold own_bl
  rw [this]
  simp only [BitVec.getLsbD_ofNat]
  have : (ix v).testBit j = false := Nat.testBit_lt_two_pow (Nat.lt_of_lt_of_le hn (by
    have : 2 ^ 6 ≤ 2 ^ j := Nat.pow_le_pow_right (by decide) hj
    omega))
  simp [this]
theorem own_bl_shl (x : Int64) (q : Int32) (h0 : 0 ≤ q.toInt) (h1 : q.toInt < 64) (j : Nat) (hj : j < 64) : own_bl (x <<< (q.toInt64 &&& 63)) j = (decide (ix q ≤ j) && own_bl x (j - ix q)) := by
  obtain ⟨e, _, hn⟩ := own_sh64 q h0 h1
  have e2 : (BitVec.ofNat 64 (ix q)).toNat = ix q := by simp; omega
  unfold own_bl
  rw [Int64.toBitVec_shiftLeft, e, BitVec.shiftLeft_eq', e2, BitVec.getLsbD_shiftLeft]
  by_cases l : j < ix q
  · have : ¬ ix q ≤ j := by omega
    simp [l, this]
  · have : ix q ≤ j := by omega
    simp [l, this, hj]
def own_h (x : Int64) (q : Int32) : Int64 := Jvm.Free.XT.ushrL x q &&& 63
theorem own_h_bit (x : Int64) (q : Int32) (h0 : 0 ≤ q.toInt) (h1 : q.toInt < 64) (j : Nat) (hj : j < 64) : own_bl (own_h x q) j = (own_bl x (ix q + j) && decide (j < 6)) := by
  have f : (63 : Int64).toBitVec = 63#64 := by decide
  have b : ∀ j : Fin 64, (63#64).getLsbD j.val = decide (j.val < 6) := by decide
  have c := b ⟨j, hj⟩
  simp only at c
  unfold own_h
  rw [own_bl_and, own_bl_ushr x q h0 h1]
  unfold own_bl
  rw [f, c]
/-- the list as the law packs it -/
def own_en (x : Int64) (l : List Nat) (v : Nat → Int32) : Prop := (∀ j (hj : j < l.length), ∀ k : Int32, k.toInt = 6 * (j : Int) → own_h x k = Int32.toInt64 (own_c6 l[j] (v l[j]))) ∧ (∀ b, 6 * l.length ≤ b → own_bl x b = false)
theorem own_en_add {x : Int64} {l : List Nat} {v : Nat → Int32} (H : own_en x l v) (hl : l.length < 4) (f : Nat) (c : Int32) (hc : c = own_c6 f (v f)) (h64 : 0 ≤ c.toInt ∧ c.toInt < 64) (k : Int32) (hk : k.toInt = 6 * (l.length : Int)) : own_en (x ||| (Int32.toInt64 c <<< (k.toInt64 &&& 63))) (l ++ [f]) v := by
  obtain ⟨H1, H2⟩ := H
  have xk := ix_int (i := k) (by omega)
  have ik : ix k = 6 * l.length := by omega
  refine ⟨fun j hj p hp => ?_, fun b hb => ?_⟩
  · have xp := ix_int (i := p) (by omega)
    have hj' : j ≤ l.length := by simp at hj; omega
    apply own_bl_ext
    intro i hi
    rw [own_h_bit _ p (by omega) (by omega) i hi, own_bl_or]
    by_cases y : j < l.length
    · rw [List.getElem_append_left y, ← H1 j y p hp, own_h_bit _ p (by omega) (by omega) i hi]
      by_cases w : i < 6
      · rw [own_bl_shl _ k (by omega) (by omega) _ (by omega)]
        have : ¬ ix k ≤ ix p + i := by omega
        simp [this]
      · simp [w]
    · have ej : j = l.length := by omega
      subst ej
      rw [List.getElem_append_right (Nat.le_refl _)]
      simp only [Nat.sub_self, List.getElem_cons_zero]
      rw [← hc]
      by_cases w : i < 6
      · rw [own_bl_shl _ k (by omega) (by omega) _ (by omega), H2 _ (by omega), show ix p + i - ix k = i by omega]
        have : ix k ≤ ix p + i := by omega
        simp [w, this]
      · rw [own_bl_s64 c h64 i (by omega)]; simp [w]
  · rw [List.length_append] at hb
    simp at hb
    rw [own_bl_or, H2 b (by omega), Bool.false_or]
    by_cases w : b < 64
    · rw [own_bl_shl _ k (by omega) (by omega) b w, own_bl_s64 c h64 _ (by omega), Bool.and_false]
    · exact own_bl_hi _ _ (by omega)

theorem own_o9 {o : Int32} (h : 0 ≤ o.toInt ∧ o.toInt < 9) : o < 9 := by
  have l : o < 9 ↔ o.toInt < 9 := i32_lt
  rw [l]; omega
theorem own_sim (L : Nat) (sg : Nat → Int32) (x : Int64) (x4 o q fd x11 : Int32) (x12 : Int64) (x14 x15 : Int32) (s t : St) (Bt : own_B t) (Et : own_E t (own_pu (own_N x) s t)) (h6 : ¬ (o = 6 ∨ o = 7)) (h9 : 0 ≤ o.toInt ∧ o.toInt < 9) (ih : ∀ (t : St) (y : Int64), own_B t → own_E t (own_N y) → wplI PP QQ (some (L, sg)) 0 lm0 26 [some (.ref 0), some (.ref 1), some (.long y), none, some (.int (x4 + 3)), none, none, none, none, none, none, none, none, none, none, none, none, none, none, none, none, none] [] (W1 t) (fun v _ => v = 1)) : wplI PP QQ (some (L, sg)) 0 lm0 401 [some (.ref 0), some (.ref 1), some (.long x), none, some (.int x4), some (.int o), none, none, some (.int q), some (.int fd), some (.int (own_all s)), some (.int x11), some (.long x12), none, some (.int x14), some (.int x15), none, none, none, none, none, none] [] (W1 t) (fun v _ => v = 1) :=
  own_410 L sg x x4 o q fd x11 x12 x14 x15 s t Bt fun y hN => ⟨fun w => absurd w h6, fun _ => l0_518 _ _ _ _ _ _ _ _ _ _ _ ⟨fun _ => own_ask L sg y x4 t Bt (own_E_x Et hN) (ih t y Bt (own_E_x Et hN)), fun w => absurd (own_o9 h9) w⟩⟩
/-- ctlAdd, ctlMod in the law -/
theorem own_ctl (L : Nat) (sg : Nat → Int32) (x : Int64) (x4 o q fd x11 : Int32) (x12 : Int64) (x14 x15 : Int32) (s t : St) (Bt : own_B t) (h6 : o = 6 ∨ o = 7) (hq : 0 ≤ q.toInt ∧ q.toInt < 2) (hf : 0 ≤ fd.toInt ∧ fd.toInt < 4) (hE : (x11 ≠ 0 ∧ own_E t (own_pu (own_N x) s t)) ∨ (x11 = 0 ∧ own_E t (own_pg (own_N x) s t (ix q) (ix fd)))) (ih : ∀ (t : St) (y : Int64), own_B t → own_E t (own_N y) → wplI PP QQ (some (L, sg)) 0 lm0 26 [some (.ref 0), some (.ref 1), some (.long y), none, some (.int (x4 + 3)), none, none, none, none, none, none, none, none, none, none, none, none, none, none, none, none, none] [] (W1 t) (fun v _ => v = 1)) : wplI PP QQ (some (L, sg)) 0 lm0 401 [some (.ref 0), some (.ref 1), some (.long x), none, some (.int x4), some (.int o), none, none, some (.int q), some (.int fd), some (.int (own_all s)), some (.int x11), some (.long x12), none, some (.int x14), some (.int x15), none, none, none, none, none, none] [] (W1 t) (fun v _ => v = 1) := by
  have h9 : o < 9 := by rcases h6 with rfl | rfl <;> decide
  obtain ⟨kq, kt⟩ := own_kq q fd hq hf
  have xq := ix_int hq.1
  have xf := ix_int hf.1
  have xk := ix_int (i := q * 4 + fd) (by omega)
  refine own_410 L sg x x4 o q fd x11 x12 x14 x15 s t Bt fun y hN => ⟨fun _ => ?_, fun w => absurd h6 w⟩
  have done : ∀ z : Int64, own_E t (own_N z) → wplI PP QQ (some (L, sg)) 0 lm0 518 [some (.ref 0), some (.ref 1), some (.long z), none, some (.int x4), some (.int o), none, none, some (.int q), none, none, some (.int x11), some (.long x12), none, some (.int x14), some (.int x15), none, none, none, none, none, none] [] (W1 t) (fun v _ => v = 1) := fun z Ez => l0_518 _ _ _ _ _ _ _ _ _ _ _ ⟨fun _ => own_ask L sg z x4 t Bt Ez (ih t z Bt Ez), fun w => absurd h9 w⟩
  refine l0_491 _ _ _ _ _ _ _ _ _ _ _ _ _ ⟨fun z => ?_, fun z => ?_⟩
  · rw [own_all_at t fd hf]
    refine own_l7 L sg y _ _ t _ ⟨t, rfl, done _ ?_⟩
    rcases hE with ⟨w, _⟩ | ⟨_, Et⟩
    · exact absurd z w
    · refine own_E_x Et fun a f ha hf' => ?_
      rw [own_N_set y _ _ (by omega) ha hf', own_rd15, hN a f ha hf']
      unfold own_pg
      by_cases w : a = ix q ∧ f = ix fd
      · rw [if_pos w, if_pos (by omega)]
      · rw [if_neg w, if_neg (by omega)]
  · rcases hE with ⟨_, Et⟩ | ⟨w, _⟩
    · exact done y (own_E_x Et hN)
    · exact absurd w z
/-- wait in the law: what came is as foreseen -/
theorem own_aft (L : Nat) (sg : Nat → Int32) (x : Int64) (x4 o q fd x11 : Int32) (x12 : Int64) (x14 x15 : Int32) (s t : St) (B : own_B s) (E : own_E s (own_N x)) (h9 : ¬ o < 9) (h6 : ¬ (o = 6 ∨ o = 7)) (hq : 0 ≤ q.toInt ∧ q.toInt < 2) (l : List Nat) (hl4 : l.length ≤ 4) (hlf : ∀ f, f ∈ l → f < 4 ∧ gI s 6 (16 * ix q + f) ≠ 0) (W : own_wi s t (ix q) 4 l) (en : own_en x12 l (fun f => own_pk s (16 * ix q + f) f)) (e11 : x11 = x14) (e14 : x14.toInt = l.length) (e31 : gI t 0 31 = x14) (h15 : ¬ x15 < 1) (ih : ∀ (t : St) (y : Int64), own_B t → own_E t (own_N y) → wplI PP QQ (some (L, sg)) 0 lm0 26 [some (.ref 0), some (.ref 1), some (.long y), none, some (.int (x4 + 3)), none, none, none, none, none, none, none, none, none, none, none, none, none, none, none, none, none] [] (W1 t) (fun v _ => v = 1)) : wplI PP QQ (some (L, sg)) 0 lm0 401 [some (.ref 0), some (.ref 1), some (.long x), none, some (.int x4), some (.int o), none, none, some (.int q), some (.int fd), some (.int (own_all s)), some (.int x11), some (.long x12), none, some (.int x14), some (.int x15), none, none, none, none, none, none] [] (W1 t) (fun v _ => v = 1) := by
  have xq := ix_int hq.1
  obtain ⟨Bt, Et⟩ := own_E_wi B E W
  refine own_410 L sg x x4 o q fd x11 x12 x14 x15 s t Bt fun y hN => ⟨fun w => absurd w h6, fun _ => l0_518 _ _ _ _ _ _ _ _ _ _ _ ⟨fun w => absurd w h9, fun _ => ⟨fun w => absurd w h15, fun _ => ⟨fun _ => ?_, fun w => absurd e11 w⟩⟩⟩⟩
  refine loop_up (F := fun j => ∀ y : Int64, (∀ a f, a < 2 → f < 4 → own_N y a f = if a = ix q ∧ f ∈ l.take (ix j) then 0 else own_pu (own_N x) s t a f) → wplI PP QQ (some (L, sg)) 0 lm0 543 [some (.ref 0), some (.ref 1), some (.long y), none, some (.int x4), none, none, none, some (.int q), none, none, none, some (.long x12), none, some (.int x14), none, none, some (.int j), none, none, none, none] [] (W1 t) (fun v _ => v = 1)) x14.toInt (by omega) (fun j j0 j1 e ihj y hy => ?_) (fun j hj y hy => ?_) 0 (by decide) (by simp; omega) y (fun a f ha hf => by rw [hN a f ha hf, if_neg]; simp [ix])
  · have xj := ix_int j0
    have xj1 := ix_int (i := j + 1) (by omega)
    have jl : ix j < l.length := by omega
    have m6 : (6 * j).toInt = 6 * ((ix j : Nat) : Int) := by rw [i32_mul] <;> simp <;> omega
    obtain ⟨f4, fr⟩ := hlf l[ix j] (List.getElem_mem jl)
    have pv := own_pk15 E (q := ix q) (f := l[ix j]) (by omega) f4 fr
    obtain ⟨c64, c3, c2⟩ := own_c6_v f4 pv
    have eh := en.1 (ix j) jl (6 * j) m6
    have eh' : Jvm.Free.XT.ushrL x12 (6 * j) &&& 63 = Int32.toInt64 (own_c6 l[ix j] (own_pk s (16 * ix q + l[ix j]) l[ix j])) := eh
    obtain ⟨w10, w11⟩ := W.2.2.2 (ix j) jl
    have jb : inb 16 j := ⟨j0, by show _ < (16 : Int); omega⟩
    have fi : (Int32.ofNat l[ix j]).toInt = ((l[ix j] : Nat) : Int) := Int32.toInt_ofNat_of_lt (by omega)
    have xfi := ix_int (i := Int32.ofNat l[ix j]) (by omega)
    refine l0_543 _ _ _ _ _ _ _ _ _ ⟨fun _ => c24_in _ _ _ ⟨fun w => absurd w (own_nn0 j0), fun _ => ⟨fun _ => ⟨jb, fun _ => c25_in _ _ _ ⟨fun w => absurd w (own_nn0 j0), fun _ => ⟨fun _ => ⟨jb, fun _ => ?_, fun w => absurd ?_ w⟩, fun w => absurd (by rw [e31, i32_lt]; exact j1) w⟩⟩, fun w => absurd ?_ w⟩, fun w => absurd (by rw [e31, i32_lt]; exact j1) w⟩⟩, fun w => absurd (by rw [i32_lt]; exact j1) w⟩
    · rw [eh', own_t32, c3]
      obtain ⟨_, kt⟩ := own_kq q (Int32.ofNat l[ix j]) hq (by omega)
      have xk := ix_int (i := q * 4 + Int32.ofNat l[ix j]) (by omega)
      refine own_l7 L sg y _ 0 t _ ⟨t, rfl, ihj _ fun a f ha hf => ?_⟩
      rw [own_N_set y _ 0 (by omega) ha hf, hy a f ha hf, show ix (j + 1) = ix j + 1 by omega, List.take_succ]
      have g? : l[ix j]? = some l[ix j] := List.getElem?_eq_getElem jl
      rw [g?]
      by_cases w : 4 * a + f = ix (q * 4 + Int32.ofNat l[ix j])
      · have a1 : a = ix q := by omega
        have a2 : f = l[ix j] := by omega
        rw [if_pos w, if_pos ⟨a1, List.mem_append.mpr (Or.inr (by simp [a2]))⟩]; decide
      · rw [if_neg w]
        by_cases z : a = ix q ∧ f ∈ l.take (ix j)
        · rw [if_pos z, if_pos ⟨z.1, List.mem_append.mpr (Or.inl z.2)⟩]
        · rw [if_neg z, if_neg]
          rintro ⟨z1, z2⟩
          rcases List.mem_append.mp z2 with z2 | z2
          · exact z ⟨z1, z2⟩
          · simp at z2; exact w (by omega)
    · rw [eh', own_t32, c2]; exact w11
    · rw [eh', own_t32, c3]; exact Int32.toInt_inj.mp (by rw [w10, fi])
  · have xj := ix_int (i := j) (by omega)
    have tk : l.take (ix j) = l := List.take_of_length_le (by omega)
    rw [tk] at hy
    have Ey : own_E t (own_N y) := own_E_x Et hy
    exact l0_543 _ _ _ _ _ _ _ _ _ ⟨fun w => absurd w (by rw [i32_lt]; omega), fun _ => own_ask L sg y x4 t Bt Ey (ih t y Bt Ey)⟩

theorem own_sc_reg (s : St) (q M : Nat) : ∀ f, ∀ x, x ∈ own_sc s q M f → gI s 6 (16 * q + x) ≠ 0
  | 0, x, h => by simp [own_sc] at h
  | f + 1, x, h => by
    unfold own_sc at h
    split at h
    · rename_i w
      rcases List.mem_append.mp h with y | y
      · exact own_sc_reg s q M f x y
      · simp at y; rw [y]; exact w.1
    · exact own_sc_reg s q M f x h
/-- what is foreseen, then wait -/
theorem own_wai (L : Nat) (sg : Nat → Int32) (x : Int64) (x4 o q fd x15 : Int32) (s : St) (B : own_B s) (E : own_E s (own_N x)) (h9 : ¬ o < 9) (h6 : ¬ (o = 6 ∨ o = 7)) (hq : 0 ≤ q.toInt ∧ q.toInt < 2) (h15 : -1 ≤ x15.toInt ∧ x15.toInt ≤ 4) (ih : ∀ (t : St) (y : Int64), own_B t → own_E t (own_N y) → wplI PP QQ (some (L, sg)) 0 lm0 26 [some (.ref 0), some (.ref 1), some (.long y), none, some (.int (x4 + 3)), none, none, none, none, none, none, none, none, none, none, none, none, none, none, none, none, none] [] (W1 t) (fun v _ => v = 1)) : wplI PP QQ (some (L, sg)) 0 lm0 315 [some (.ref 0), some (.ref 1), some (.long x), none, some (.int x4), some (.int o), none, none, some (.int q), some (.int fd), some (.int (own_all s)), none, some (.long 0), none, some (.int 0), some (.int x15), some (.int 0), none, none, none, none, none] [] (W1 s) (fun v _ => v = 1) := by
  have xq := ix_int hq.1
  refine loop_up (F := fun f => ∀ (x12 : Int64) (x14 : Int32), own_en x12 (own_sc s (ix q) x15.toInt.toNat (ix f)) (fun f => own_pk s (16 * ix q + f) f) → x14.toInt = (own_sc s (ix q) x15.toInt.toNat (ix f)).length → wplI PP QQ (some (L, sg)) 0 lm0 315 [some (.ref 0), some (.ref 1), some (.long x), none, some (.int x4), some (.int o), none, none, some (.int q), some (.int fd), some (.int (own_all s)), none, some (.long x12), none, some (.int x14), some (.int x15), some (.int f), none, none, none, none, none] [] (W1 s) (fun v _ => v = 1)) 4 (by decide) (fun f f0 f1 e ihf x12 x14 en e14 => ?_) (fun f hf x12 x14 en e14 => ?_) 0 (by decide) (by decide) 0 0 ⟨fun j hj => absurd hj (by simp [ix, own_sc]), fun b _ => own_bl_0 b⟩ rfl
  · have hf : 0 ≤ f.toInt ∧ f.toInt < 4 := ⟨f0, f1⟩
    have xf := ix_int f0
    have xf1 := ix_int (i := f + 1) (by omega)
    obtain ⟨kq, _⟩ := own_kq q f hq hf
    have le := own_sc_le s (ix q) x15.toInt.toNat (ix f)
    have stp : own_sc s (ix q) x15.toInt.toNat (ix (f + 1)) = if gI s 6 (16 * ix q + ix f) ≠ 0 ∧ own_pk s (16 * ix q + ix f) (ix f) ≠ 0 ∧ (own_sc s (ix q) x15.toInt.toNat (ix f)).length < x15.toInt.toNat then own_sc s (ix q) x15.toInt.toNat (ix f) ++ [ix f] else own_sc s (ix q) x15.toInt.toNat (ix f) := by rw [show ix (f + 1) = ix f + 1 by omega]; rfl
    refine l0_315 _ _ _ _ _ _ _ _ _ _ _ _ _ ⟨fun _ => own_i28 s B q f hq hf _ (fun a => ?_) (fun op r => ?_), fun w => absurd (by rw [i32_lt]; exact f1) w⟩
    · have z : gI s 6 (16 * ix q + ix f) = 0 := Classical.byContradiction fun r => by
        rcases a with w | w
        · exact (E (ix q) (ix f) (by omega) (by omega) r).1 w
        · exact r w
      refine own_l4 L sg s B f hf _ ⟨s, rfl, own_l6 L sg x _ s (ix q) (ix f) kq _ ⟨s, rfl, own_exn L sg s _ _ _ ⟨s, rfl, fun m115 e115 m116 e116 => ?_⟩⟩⟩
      rw [if_pos rfl] at e115 e116
      subst e115 e116
      have es : own_sc s (ix q) x15.toInt.toNat (ix (f + 1)) = own_sc s (ix q) x15.toInt.toNat (ix f) := by rw [stp, if_neg (fun w => w.1 z)]
      exact ihf _ _ (by rw [es]; exact en) (by rw [es]; exact e14)
    · refine own_l4 L sg s B f hf _ ⟨s, rfl, own_l6 L sg x _ s (ix q) (ix f) kq _ ⟨s, rfl, own_exq L sg E (by omega) (by omega) op r _ ⟨s, rfl, fun m115 e115 m116 e116 => ?_⟩⟩⟩
      by_cases y : own_pk s (16 * ix q + ix f) (ix f) = 0
      · rw [if_pos y] at e115 e116
        subst e115 e116
        have es : own_sc s (ix q) x15.toInt.toNat (ix (f + 1)) = own_sc s (ix q) x15.toInt.toNat (ix f) := by rw [stp, if_neg (fun w => w.2.1 y)]
        exact ihf _ _ (by rw [es]; exact en) (by rw [es]; exact e14)
      · rw [if_neg y] at e115 e116
        by_cases lt : x14 < x15
        · rw [if_pos lt] at e115 e116
          rw [i32_lt] at lt
          subst e115 e116
          have es : own_sc s (ix q) x15.toInt.toNat (ix (f + 1)) = own_sc s (ix q) x15.toInt.toNat (ix f) ++ [ix f] := by rw [stp, if_pos ⟨r, y, by omega⟩]
          have pv := own_pk15 E (q := ix q) (f := ix f) (by omega) (by omega) r
          have c6 : f ||| (own_pk s (16 * ix q + ix f) (ix f) <<< ((2 : Int32) &&& 31)) = own_c6 (ix f) (own_pk s (16 * ix q + ix f) (ix f)) := by unfold own_c6; rw [← own_i32 f f0]
          obtain ⟨c64, _⟩ := own_c6_v (f := ix f) (by omega) pv
          have m6 : (6 * x14).toInt = 6 * x14.toInt := by rw [i32_mul] <;> simp <;> omega
          have e1 : (x14 + 1).toInt = x14.toInt + 1 := by rw [i32_add] <;> simp <;> omega
          refine ihf _ _ ?_ (by rw [es, e1, e14]; simp)
          rw [es]
          exact own_en_add en (by omega) (ix f) _ c6 (by rw [c6]; exact c64) _ (by rw [m6, e14])
        · rw [if_neg lt] at e115 e116
          rw [i32_lt] at lt
          subst e115 e116
          have es : own_sc s (ix q) x15.toInt.toNat (ix (f + 1)) = own_sc s (ix q) x15.toInt.toNat (ix f) := by rw [stp, if_neg (by omega)]
          exact ihf _ _ (by rw [es]; exact en) (by rw [es]; exact e14)
  · have f4 : ix f = 4 := by have := ix_int (i := f) (by omega); omega
    rw [f4] at en e14
    have le := own_sc_le s (ix q) x15.toInt.toNat 4
    refine l0_315 _ _ _ _ _ _ _ _ _ _ _ _ _ ⟨fun w => absurd w (by rw [i32_lt, hf]; decide), fun _ => ?_⟩
    by_cases m1 : x15 < 1
    · apply c22_in
      refine own_i6 s B q hq _ ⟨fun w => absurd w (by decide), fun _ => ⟨fun _ => ?_, fun w => absurd m1 w⟩⟩
      have Es := own_E_rf E
      exact own_410 L sg x x4 o q fd _ x12 x14 x15 s s B fun y hN => ⟨fun w => absurd w h6, fun _ => l0_518 _ _ _ _ _ _ _ _ _ _ _ ⟨fun w => absurd w h9, fun _ => ⟨fun _ => own_ask L sg y x4 s B (own_E_x Es hN) (ih s y B (own_E_x Es hN)), fun w => absurd m1 w⟩⟩⟩
    · have m1' : 1 ≤ x15.toInt := by
        have l : x15 < 1 ↔ x15.toInt < 1 := i32_lt
        rw [l] at m1; omega
      have x15' := ix_int (i := x15) (by omega)
      have eM : ix x15 = x15.toInt.toNat := by omega
      refine own_i22 s B q x15 hq ⟨m1', h15.2⟩ _ fun v t W hv e31 => ?_
      rw [eM] at W hv
      have ev : v = x14 := Int32.toInt_inj.mp (by rw [hv, e14])
      subst ev
      exact own_aft L sg x x4 o q fd v x12 v x15 s t B E h9 h6 hq _ (by omega) (fun g hg => ⟨own_sc_lt s _ _ 4 g hg, own_sc_reg s _ _ 4 g hg⟩) W en rfl e14 e31 m1 ih
theorem own_ps (a m r : Int32) (hm : 1 ≤ m.toInt ∧ m.toInt ≤ 11) (h : r = if a % m < 0 then a % m + m else a % m) : 0 ≤ r.toInt ∧ r.toInt < m.toInt := by
  have e : (a % m).toInt = a.toInt.tmod m.toInt := Int32.toInt_mod a m
  have l1 := Int.tmod_lt_of_pos a.toInt (show 0 < m.toInt by omega)
  have l2 := Int.lt_tmod_of_pos a.toInt (show 0 < m.toInt by omega)
  have l0 : (a % m < 0) ↔ (a % m).toInt < 0 := i32_lt
  rw [h]
  by_cases w : a % m < 0
  · rw [if_pos w]; rw [l0] at w
    have s1 : (a % m + m).toInt = (a % m).toInt + m.toInt := by rw [i32_add] <;> omega
    omega
  · rw [if_neg w]; rw [l0] at w; omega
theorem own_n01 (x : Int32) : 0 ≤ (x &&& 1).toInt ∧ (x &&& 1).toInt < 2 := by
  have m := Jvm.Kit.i32_mask x 1 (k := 1) (by decide) (by decide)
  have e : ((2 : Int) ^ 1) = 2 := by decide
  rw [m, e]; omega
theorem own_n03 (x : Int32) : 0 ≤ (x &&& 3).toInt ∧ (x &&& 3).toInt < 4 := by
  have m := Jvm.Kit.i32_mask x 3 (k := 2) (by decide) (by decide)
  have e : ((2 : Int) ^ 2) = 4 := by decide
  rw [m, e]; omega
theorem own_d2 (x : Int32) (h : 0 ≤ x.toInt ∧ x.toInt < 2) : (0 ≤ (2 * x).toInt ∧ (2 * x).toInt < 4) ∧ (0 ≤ (2 * x + 1).toInt ∧ (2 * x + 1).toInt < 4) := by
  have m2 : (2 * x).toInt = 2 * x.toInt := by rw [i32_mul] <;> simp <;> omega
  have m3 : (2 * x + 1).toInt = 2 * x.toInt + 1 := by
    have := i32_add (x := 2 * x) (y := 1) (by show (-2147483648 : Int) ≤ (2 * x).toInt + 1; omega) (by show (2 * x).toInt + 1 < (2147483648 : Int); omega)
    rw [this, m2]; rfl
  omega
/-- one turn -/
theorem own_turn (L : Nat) (sg : Nat → Int32) (eN : (Int32.ofNat L).toInt = L) (x : Int64) (x4 : Int32) (h4 : 0 ≤ x4.toInt ∧ x4.toInt < 1000) (s : St) (B : own_B s) (E : own_E s (own_N x)) (ih : ∀ (t : St) (y : Int64), own_B t → own_E t (own_N y) → wplI PP QQ (some (L, sg)) 0 lm0 26 [some (.ref 0), some (.ref 1), some (.long y), none, some (.int (x4 + 3)), none, none, none, none, none, none, none, none, none, none, none, none, none, none, none, none, none] [] (W1 t) (fun v _ => v = 1)) : wplI PP QQ (some (L, sg)) 0 lm0 26 [some (.ref 0), some (.ref 1), some (.long x), none, some (.int x4), none, none, none, none, none, none, none, none, none, none, none, none, none, none, none, none, none] [] (W1 s) (fun v _ => v = 1) := by
  have a1 : (x4 + 1).toInt = x4.toInt + 1 := by rw [i32_add] <;> simp <;> omega
  have a2 : (x4 + 2).toInt = x4.toInt + 2 := by rw [i32_add] <;> simp <;> omega
  have cell : ∀ (k : Int32) (Q : Int32 → Wd → Prop), 0 ≤ k.toInt → (∀ v, Q v (W1 s)) → lalI PP QQ (some (L, sg)) 2 [.ref 0, .int k] (W1 s) Q := fun k Q k0 h => l2r0W1_in _ _ _ _ _ ⟨fun a => ⟨⟨k0, by rw [i32_lt, eN] at a; exact a⟩, h _⟩, fun _ => h _⟩
  have pos : ∀ (a m : Int32) (Q : Int32 → Wd → Prop), (1 ≤ m.toInt ∧ m.toInt ≤ 11) → (∀ r : Int32, 0 ≤ r.toInt ∧ r.toInt < m.toInt → Q r (W1 s)) → lalI PP QQ (some (L, sg)) 3 [.int a, .int m] (W1 s) Q := fun a m Q hm h => l3W1_in _ _ _ _ _ _ ⟨fun w => by rw [w] at hm; exact absurd hm (by decide), fun w => h _ (own_ps a m _ hm (by rw [if_pos w])), fun w => h _ (own_ps a m _ hm (by rw [if_neg w]))⟩
  refine l0_26 _ _ _ _ _ ⟨fun _ => ?_, fun _ => rfl⟩
  refine cell _ _ h4.1 fun c0 => ⟨s, rfl, pos _ _ _ (by decide) fun o ho => ⟨s, rfl, cell _ _ (by omega) fun a => ⟨s, rfl, cell _ _ (by omega) fun b => ⟨s, rfl, own_l5 L sg s B _ ⟨s, rfl, ?_⟩⟩⟩⟩⟩
  have ho : 0 ≤ o.toInt ∧ o.toInt < 11 := ho
  have hq := own_n01 a
  have hfd := own_n03 (Jvm.Free.XT.ushr a 1)
  have hf3 := own_n03 a
  generalize hQ : a &&& 1 = q at hq ⊢
  generalize Jvm.Free.XT.ushr a 1 &&& 3 = fd at hfd ⊢
  have l2 : (2 < o) ↔ 2 < o.toInt := i32_lt
  have l4 : (4 < o) ↔ 4 < o.toInt := i32_lt
  have l9 : (o < 9) ↔ o.toInt < 9 := i32_lt
  have eq : ∀ (k : Int32) (n : Int), k.toInt = n → (o = k ↔ o.toInt = n) := fun k n h => by rw [i32_eq, h]
  have q0 := eq 0 0 (by decide)
  have q5 := eq 5 5 (by decide)
  have q6 := eq 6 6 (by decide)
  have q7 := eq 7 7 (by decide)
  have q8 := eq 8 8 (by decide)
  clear eq
  have no6 : o.toInt ≠ 6 → o.toInt ≠ 7 → ¬ (o = 6 ∨ o = 7) := fun w v y => by
    rcases y with y | y
    · exact w (q6.mp y)
    · exact v (q7.mp y)
  have sim : ∀ t, o.toInt ≠ 6 → o.toInt ≠ 7 → o.toInt < 9 → own_B t → own_E t (own_pu (own_N x) s t) → wplI PP QQ (some (L, sg)) 0 lm0 401 [some (.ref 0), some (.ref 1), some (.long x), none, some (.int x4), some (.int o), none, none, some (.int q), some (.int fd), some (.int (own_all s)), some (.int 0), some (.long 0), none, some (.int 0), some (.int 0), none, none, none, none, none, none] [] (W1 t) (fun v _ => v = 1) := fun t w6 w7 w9 Bt Et => own_sim L sg x x4 o q fd 0 0 0 0 s t Bt Et (no6 w6 w7) ⟨ho.1, w9⟩ ih
  have ctl : (o = 6 ∨ o = 7) → wplI PP QQ (some (L, sg)) 0 lm0 217 [some (.ref 0), some (.ref 1), some (.long x), none, some (.int x4), some (.int o), none, some (.int b), some (.int q), some (.int fd), some (.int (own_all s)), none, some (.long 0), none, some (.int 0), some (.int 0), none, none, none, none, none, none] [] (W1 s) (fun v _ => v = 1) := fun h67 => by
    refine l0_217 _ _ _ _ _ _ _ _ _ _ _ _ _ fun m _ => ⟨fun _ => ?_, fun _ => ?_⟩
    · exact own_o19 B E q fd m hq hfd _ (fun r hr => l0_277 _ _ _ _ _ _ _ _ _ _ _ _ _ (own_ctl L sg x x4 o q fd r 0 0 0 s s B h67 hq hfd (Or.inl ⟨hr, own_E_rf E⟩) ih)) fun t Bt Et => l0_277 _ _ _ _ _ _ _ _ _ _ _ _ _ (own_ctl L sg x x4 o q fd 0 0 0 0 s t Bt h67 hq hfd (Or.inr ⟨rfl, Et⟩) ih)
    · exact own_o20 B E q fd m hq hfd _ (fun r hr => l0_277 _ _ _ _ _ _ _ _ _ _ _ _ _ (own_ctl L sg x x4 o q fd r 0 0 0 s s B h67 hq hfd (Or.inl ⟨hr, own_E_rf E⟩) ih)) fun t Bt Et => l0_277 _ _ _ _ _ _ _ _ _ _ _ _ _ (own_ctl L sg x x4 o q fd 0 0 0 0 s t Bt h67 hq hfd (Or.inr ⟨rfl, Et⟩) ih)
  refine ⟨fun w => own_o15 B E _ fun r t Bt Et => sim t (by rw [q0] at w; omega) (by rw [q0] at w; omega) (by rw [q0] at w; omega) Bt Et, fun w0 => ⟨fun w2 => ⟨fun w4 => ⟨fun w5 => own_o18 B E _ hf3 _ fun r t Bt Et => sim t (by rw [q5] at w5; omega) (by rw [q5] at w5; omega) (by rw [q5] at w5; omega) Bt Et, fun w5 => ⟨fun w6 => ctl (Or.inl w6), fun w6 => ⟨fun w7 => ctl (Or.inr w7), fun w7 => ⟨fun w8 => own_o21 B E _ _ hq hfd _ fun r t Bt Et => sim t (by rw [q8] at w8; omega) (by rw [q8] at w8; omega) (by rw [q8] at w8; omega) Bt Et, fun w8 => pos _ _ _ (by decide) fun m hm => ⟨s, rfl, ?_⟩⟩⟩⟩⟩, fun w4 m em => ?_⟩, fun w2 m em => ?_⟩⟩
  · have hm : 0 ≤ m.toInt ∧ m.toInt < 6 := hm
    have em : (m - 1).toInt = m.toInt - 1 := by rw [i32_sub] <;> simp <;> omega
    rw [l4] at w4; rw [q5] at w5; rw [q6] at w6; rw [q7] at w7; rw [q8] at w8
    exact own_wai L sg x x4 o q fd (m - 1) s B E (by rw [l9]; omega) (no6 w6 w7) hq (by omega) ih
  · rw [l4] at w4; rw [l2] at w2
    have hm : 0 ≤ m.toInt ∧ m.toInt < 4 := by
      rw [em]; split
      · exact (own_d2 q hq).1
      · exact hf3
    exact own_o17 B E m hm _ fun r t Bt Et => sim t (by omega) (by omega) (by omega) Bt Et
  · rw [l2] at w2
    have hm : 0 ≤ m.toInt ∧ m.toInt < 4 := by
      rw [em]; split
      · exact (own_d2 q hq).2
      · exact hf3
    exact own_o16 B E m b hm _ fun r t Bt Et => sim t (by omega) (by omega) (by omega) Bt Et
theorem own_clamp (x lo hi : Int32) (s : St) (Q : Int32 → St → Prop) (h : Q (if x < lo then lo else if hi < x then hi else x) s) : calI PP 2 11 [.ref 0, .int x, .int lo, .int hi] s Q := by
  apply c2_in
  refine ⟨fun a => ?_, fun a => ⟨fun b => ?_, fun b => ?_⟩⟩
  · rw [if_pos a] at h; exact h
  · rw [if_neg a, if_pos b] at h; exact h
  · rw [if_neg a, if_neg b] at h; exact h
theorem law_ok (L : Nat) (sg : Nat → Int32) (hN : (L : Int) ≤ (260 : Int32).toInt) : lalI PP QQ (some (L, sg)) 0 [.ref 0] W0 (fun v _ => v = 1) := by
  have hN : (L : Int) ≤ 260 := hN
  have eN : (Int32.ofNat L).toInt = L := Int32.toInt_ofNat_of_lt (by omega)
  apply l0_in
  have cell : ∀ (k : Int32) (Q : Int32 → Wd → Prop), 0 ≤ k.toInt → (∀ v, Q v W0p) → lalI PP QQ (some (L, sg)) 2 [.ref 0, .int k] W0p Q := fun k Q k0 h => l2r0W0p_in _ _ _ _ ⟨fun a => ⟨⟨k0, by rw [i32_lt, eN] at a; exact a⟩, h _⟩, fun _ => h _⟩
  refine cell 0 _ (by decide) fun v2 => ⟨rfl, ?_⟩
  have pos : ∀ (a m : Int32) (Q : Int32 → Wd → Prop), (1 ≤ m.toInt ∧ m.toInt ≤ 11) → (∀ r : Int32, 0 ≤ r.toInt ∧ r.toInt < m.toInt → Q r W0p) → lalI PP QQ (some (L, sg)) 3 [.int a, .int m] W0p Q := fun a m Q hm h => l3W0p_in _ _ _ _ _ ⟨fun w => by rw [w] at hm; exact absurd hm (by decide), fun w => h _ (own_ps a m _ hm (by rw [if_pos w])), fun w => h _ (own_ps a m _ hm (by rw [if_neg w]))⟩
  refine pos _ _ _ (by decide) fun v5 h5 => ⟨rfl, ?_⟩
  have h5 : 0 ≤ v5.toInt ∧ v5.toInt < 4 := h5
  have ec : (1 + v5).toInt = 1 + v5.toInt := by
    have := i32_add (x := 1) (y := v5) (by show (-2147483648 : Int) ≤ 1 + v5.toInt; omega) (by show 1 + v5.toInt < (2147483648 : Int); omega)
    rw [this]; rfl
  apply c0_in
  apply own_clamp
  apply own_clamp
  apply own_clamp
  have k1 : (if (2 : Int32) < 1 then (1 : Int32) else if (8 : Int32) < 2 then 8 else 2) = 2 := by decide
  have k3 : (if (2 : Int32) < 1 then (1 : Int32) else if (4 : Int32) < 2 then 4 else 2) = 2 := by decide
  have k2 : (if 1 + v5 < 1 then (1 : Int32) else if 16 < 1 + v5 then 16 else 1 + v5) = 1 + v5 := by
    have l1 : (1 + v5 < 1) ↔ (1 + v5).toInt < 1 := i32_lt
    have l2 : (16 < 1 + v5) ↔ 16 < (1 + v5).toInt := i32_lt
    rw [if_neg (by rw [l1]; omega), if_neg (by rw [l2]; omega)]
  rw [k1, k2, k3]
  generalize 1 + v5 = c at ec ⊢
  generalize hS : sI (sI (sI (sI s0 0 17 2) 0 18 c) 0 19 2) 0 31 0 = S
  have s17 : gI S 0 17 = 2 := by subst hS; simp [gI_sI]
  have s18 : gI S 0 18 = c := by subst hS; simp [gI_sI]
  have s19 : gI S 0 19 = 2 := by subst hS; simp [gI_sI]
  have sz : ∀ c j, c ≠ 0 → gI S c j = 0 := fun c j h => by
    subst hS
    rw [gI_sI, if_neg (fun w => h w.1), gI_sI, if_neg (fun w => h w.1), gI_sI, if_neg (fun w => h w.1), gI_sI, if_neg (fun w => h w.1)]
    rfl
  clear hS
  have B0 : own_B S := ⟨s17, s19, by rw [s18]; omega, fun p _ => ⟨Or.inl (sz 1 p (by decide)), Or.inl (sz 2 p (by decide))⟩⟩
  have E0 : own_E S (own_N 0) := fun q f _ _ r => absurd (sz 6 _ (by decide)) r
  have loop : ∀ (m : Nat) (x4 : Int32) (s : St) (x : Int64), 0 ≤ x4.toInt → x4.toInt + m = 900 → own_B s → own_E s (own_N x) → wplI PP QQ (some (L, sg)) 0 lm0 26 [some (.ref 0), some (.ref 1), some (.long x), none, some (.int x4), none, none, none, none, none, none, none, none, none, none, none, none, none, none, none, none, none] [] (W1 s) (fun v _ => v = 1) := by
    intro m
    induction m using Nat.strongRecOn with
    | _ m ih =>
    intro x4 s x h0 hm B E
    by_cases big : x4.toInt < 300
    · have e3 : (x4 + 3).toInt = x4.toInt + 3 := by rw [i32_add] <;> simp <;> omega
      exact own_turn L sg eN x x4 ⟨h0, by omega⟩ s B E fun t y Bt Et => ih (m - 3) (by omega) (x4 + 3) t y (by omega) (by omega) Bt Et
    · exact l0_26 _ _ _ _ _ ⟨fun w => absurd w (by rw [i32_lt, eN]; omega), fun _ => rfl⟩
  exact loop 899 1 S 0 (by decide) (by decide) B0 E0

theorem comes_1 {Post : Tables → Env → Array Value → State → Outcome → State → Prop} (hpost : ∀ tb e args s v u, (limb_1_1.after args s (.returned v) u = true ∧ limb_1_2.after args s (.returned v) u = true ∧ True) → FrameEnd s (.returned v) u (Jvm.fieldLocs frame_1_writes args s ++ Jvm.arrayLocs frame_1_arrays args s ++ Jvm.staticLocs frame_1_statics s) 32 1024 → Post tb e args s (.returned v) u) :
    ArmFor flags0 classFile x code maxLocals ret World_1 tables_1 room_1 Calls_1 rest_1 Pre_1 Post := by
  intro l hfl _ _ p e ha hc hk s m args below hf hA hF happ hP
  obtain ⟨hcalls, hrest, hpre⟩ := hP
  obtain ⟨-, -, -, hnamed, -, -, -, hat⟩ := (Spec.applies_iff hf).mp happ
  obtain ⟨hg, hn⟩ := and_e (Cond.before_iff.mp (show (Jvm.Cond.and given_1 narrow_1).before args s = true from hpre))
  obtain ⟨h1, g0⟩ := and_e hg
  obtain ⟨w0, rfl⟩ : ∃ w0 : Value, args = #[w0] := by
    have hs : args.size = 1 := by simpa [Cond.value, given_1] using h1
    obtain ⟨L⟩ := args
    match L, hs with
    | [w0], _ => exact ⟨w0, rfl⟩
  have hw := fun d (hd : d ∈ tables_1) => atoms_spec (ws := Jvm.Cond.code x code maxLocals ret :: tables_1) hat d (List.mem_cons_of_mem _ hd)
  have hfit : Fit s := fun {y c} hc i hi => by
    obtain ⟨ha, rfl⟩ := Array.getElem?_eq_some_iff.mp hc
    have q := List.all_eq_true.mp ((Array.all_eq_true_iff_forall_mem.mp hF) _ (Array.getElem_mem ha)) i (List.mem_range.mpr hi)
    simpa [Array.getElem?_eq_getElem hi] using q
  obtain ⟨hn1, hn2⟩ := and_e hn
  obtain ⟨a, ea⟩ := arr_v hn1
  obtain rfl : w0 = .ref a := Option.some.inj ea
  obtain ⟨cl, A⟩ := Arr.start ea hn1
  obtain ⟨⟨-, hN⟩, hS⟩ := script_of hfit A ea hn2
  obtain ⟨f, w0, hr⟩ := law_run (law_ok cl.slots.size (fun i => match cl.slots[i]? with | some (.int x) => x | _ => 0) hN) (me := lm0) rfl
  have M : MetFree l x (head1 (Jvm.Cond.code x code maxLocals ret :: tables_1) room_1) (fun b U => b = #[.ref a] ∧ s.Warmed39 U.vm ∧ U.heap = s.heap) (fun _ _ _ _ _ => True) (fun _ U o U' => ∃ u L, o = .returned u ∧ (u = some (.int 1) ∧ Fr s.heap.size L) ∧ FrameEnd U o U' L 32 1024) :=
    law_met (lkC s _ hw) (lkL s _ hw) (sc := some (cl.slots.size, fun i => match cl.slots[i]? with | some (.int x) => x | _ => 0)) (a := a) (me := lm0) rfl l (bytes := code) (chk_ok dk_l0) (as := [.ref 0]) rfl (Nat.le_of_ble_eq_true rfl) hr hS
  obtain ⟨n, o, h1, h2, h3, _, L, rfl, ⟨rfl, N⟩, hq⟩ := M p e ha hc hk s m _ below hf ((Spec.applies_iff_loose hf).mp happ).1 ⟨rfl, State.Warmed39.refl s, rfl⟩ trivial
  refine ⟨n, _, h1, h2, h3, hpost _ _ _ _ _ _ ⟨Cond.after_iff.mpr rfl, Cond.after_iff.mpr (eq_i res_at (Term.int_eval (1)) rfl), trivial⟩ ⟨hq.1, hq.2.1, (hq.2.2.sift fun y hy => Or.inr (N y hy)).mono (by decide) (by decide)⟩⟩
theorem main_1_1 : Claimed_1_1 := comes_1 fun _ _ _ _ _ _ h hF => ⟨h.1, hF⟩
theorem main_1_2 : Claimed_1_2 := comes_1 fun _ _ _ _ _ _ h hF => ⟨h.2.1, hF⟩
end Jvm.Pilot.@@N@@
namespace Jvm.Pilot.@@N@@
open Jvm Jvm.ClassFile Sem Op Lib Jvm.Free Jvm.Stand Jvm.Pilot.@@N@@.Jvm.D
/-! MADE BY PROGRAM (witnessworld.py) out of the Statement's table words and the real class files: 11 classes; the members and pool entries that the words name. The judged class is class 1, her method 8. -/
namespace start1
open Jvm.ClassFile
def u (s : String) : CpInfo := .utf8 (stringToUtf16 s)
/-- a pool by its gaps: so many unusable entries, then the entry; so many at the end -/
def gap : Nat → List CpInfo → List CpInfo
  | 0, r => r
  | n + 1, r => .unusable :: gap n r
def poolList (es : List (Nat × CpInfo)) (last : Nat) : List CpInfo := es.foldr (fun e r => gap e.1 (e.2 :: r)) (gap last [])
def pool (es : List (Nat × CpInfo)) (last : Nat) : Array CpInfo := ⟨poolList es last⟩
def fileOf (pool : Array CpInfo) (this : Nat) (attrs : Array Attribute := #[]) (ms : Array MethodInfo := #[]) (fl : Nat := 33) (sup : Nat := 0) (ifs : Array Nat := #[]) (fds : Array FieldInfo := #[]) : ClassFile where
  minorVersion := 0
  majorVersion := 65
  constantPool := pool
  accessFlags := fl
  thisClass := this
  superClass := sup
  interfaces := ifs
  fields := fds
  methods := ms
  attributes := attrs
def plain (name : String) (sup : Option ClassId) : Class where
  name := name
  kind := .ordinary
  loader := none
  accessFlags := 33
  super := sup
  interfaces := #[]
  cf := none
  fields := #[]
  methods := #[]
  instanceTypes := #[]
  staticTypes := #[]
  resolved := #[]
  callSites := []
  init := .initialized
  statics := none
  mirror := none

def pool0 : Array CpInfo := pool [(5, u "<init>"), (0, u "()V"), (1, .class_ 10), (1, u "java/lang/Object")] 113

def k0c0 : Code := { maxStack := 0, maxLocals := 1, code := object_method_1_code, exceptionTable := #[], attributes := #[] }
def k0m0 : Method := { name := "<init>", desc := "()V", sig := { parameters := [], returnType := none }, accessFlags := 1, code := some k0c0 }
/-- java/lang/Object -/
def k0 : Class := { plain "java/lang/Object" none with
  accessFlags := 33
  interfaces := #[]
  cf := some (fileOf pool0 8 #[] #[{ accessFlags := 1, nameIndex := 5, descriptorIndex := 6, attributes := #[] }] 33 0 #[] #[])
  fields := #[]
  methods := #[k0m0]
  instanceTypes := #[]
  staticTypes := #[]
  resolved := Array.replicate 124 none
  statics := none }

def pool1 : Array CpInfo := pool [(2, .class_ 4), (1, u "java/lang/Object"), (0, u "<init>"), (0, u "()V"), (0, .methodref 8 9), (0, .class_ 10), (0, .nameAndType 11 12), (0, u "ReadinessPoller"), (0, u "fdReadiness"), (0, u "(I)I"), (0, .methodref 14 15), (0, .class_ 16), (0, .nameAndType 17 18), (0, u "ReadinessPollerOwnLaw"), (0, u "rd"), (0, u "(LReadinessPoller;I)I"), (0, .long 15), (1, .long 18446744073709551615), (1, .methodref 14 24), (0, .nameAndType 25 26), (0, u "cell"), (0, u "([II)I"), (0, .methodref 14 28), (0, .nameAndType 29 30), (0, u "pos"), (0, u "(II)I"), (0, .methodref 8 32), (0, .nameAndType 5 33), (0, u "(III)V"), (0, .methodref 14 35), (0, .nameAndType 36 37), (0, u "readyAll"), (0, u "(LReadinessPoller;)I"), (0, .methodref 8 39), (0, .nameAndType 40 41), (0, u "createPipe"), (0, u "()I"), (0, .methodref 8 43), (0, .nameAndType 44 30), (0, u "write"), (0, .methodref 8 46), (0, .nameAndType 47 12), (0, u "read"), (0, .methodref 8 49), (0, .nameAndType 50 12), (0, u "closeFd"), (0, .methodref 8 52), (0, .nameAndType 53 54), (0, u "ctlAdd"), (0, u "(III)I"), (0, .methodref 8 56), (0, .nameAndType 57 54), (0, u "ctlMod"), (0, .methodref 8 59), (0, .nameAndType 60 30), (0, u "ctlDel"), (0, .methodref 8 62), (0, .nameAndType 63 30), (0, u "regInfo"), (0, .methodref 14 65), (0, .nameAndType 66 67), (0, u "nib"), (0, u "(JI)I"), (0, .methodref 14 69), (0, .nameAndType 70 54), (0, u "expect"), (0, .methodref 8 72), (0, .nameAndType 73 30), (0, u "wait"), (0, .methodref 14 75), (0, .nameAndType 76 77), (0, u "setNib"), (0, u "(JII)J"), (0, .long 63), (1, .methodref 8 81), (0, .nameAndType 82 12), (0, u "eventFd"), (0, .methodref 8 84), (0, .nameAndType 85 12), (0, u "eventMask"), (0, .methodref 8 87), (0, .nameAndType 88 30), (0, u "peekReady"), (0, .methodref 8 90), (0, .nameAndType 91 12), (0, u "readyCount"), (3, u "law"), (0, u "([I)Z")] 4

def k1m0 : Method := { name := "<init>", desc := "()V", sig := { parameters := [], returnType := none }, accessFlags := 1, code := none }
def k1c1 : Code := { maxStack := 2, maxLocals := 2, code := method_2_code, exceptionTable := #[], attributes := #[] }
def k1m1 : Method := { name := "cell", desc := "([II)I", sig := { parameters := [(.array .int), .int], returnType := some .int }, accessFlags := 10, code := some k1c1 }
def k1c2 : Code := { maxStack := 2, maxLocals := 3, code := method_3_code, exceptionTable := #[], attributes := #[] }
def k1m2 : Method := { name := "pos", desc := "(II)I", sig := { parameters := [.int, .int], returnType := some .int }, accessFlags := 10, code := some k1c2 }
def k1c3 : Code := { maxStack := 2, maxLocals := 3, code := method_4_code, exceptionTable := #[], attributes := #[] }
def k1m3 : Method := { name := "rd", desc := "(LReadinessPoller;I)I", sig := { parameters := [(.object "ReadinessPoller"), .int], returnType := some .int }, accessFlags := 10, code := some k1c3 }
def k1c4 : Code := { maxStack := 4, maxLocals := 3, code := method_5_code, exceptionTable := #[], attributes := #[] }
def k1m4 : Method := { name := "readyAll", desc := "(LReadinessPoller;)I", sig := { parameters := [(.object "ReadinessPoller")], returnType := some .int }, accessFlags := 10, code := some k1c4 }
def k1c5 : Code := { maxStack := 4, maxLocals := 3, code := method_6_code, exceptionTable := #[], attributes := #[] }
def k1m5 : Method := { name := "nib", desc := "(JI)I", sig := { parameters := [.long, .int], returnType := some .int }, accessFlags := 10, code := some k1c5 }
def k1c6 : Code := { maxStack := 6, maxLocals := 4, code := method_7_code, exceptionTable := #[], attributes := #[] }
def k1m6 : Method := { name := "setNib", desc := "(JII)J", sig := { parameters := [.long, .int, .int], returnType := some .long }, accessFlags := 10, code := some k1c6 }
def k1c7 : Code := { maxStack := 3, maxLocals := 4, code := method_8_code, exceptionTable := #[], attributes := #[] }
def k1m7 : Method := { name := "expect", desc := "(III)I", sig := { parameters := [.int, .int, .int], returnType := some .int }, accessFlags := 10, code := some k1c7 }
def k1c8 : Code := { maxStack := 7, maxLocals := 22, code := code, exceptionTable := #[], attributes := #[] }
def k1m8 : Method := { name := "law", desc := "([I)Z", sig := { parameters := [(.array .int)], returnType := some .boolean }, accessFlags := 9, code := some k1c8 }
/-- ReadinessPollerOwnLaw -/
def k1 : Class := { plain "ReadinessPollerOwnLaw" (some 0) with
  accessFlags := 49
  interfaces := #[]
  cf := some (fileOf pool1 14 #[] #[{ accessFlags := 1, nameIndex := 5, descriptorIndex := 6, attributes := #[] }, { accessFlags := 10, nameIndex := 25, descriptorIndex := 26, attributes := #[] }, { accessFlags := 10, nameIndex := 29, descriptorIndex := 30, attributes := #[] }, { accessFlags := 10, nameIndex := 17, descriptorIndex := 18, attributes := #[] }, { accessFlags := 10, nameIndex := 36, descriptorIndex := 37, attributes := #[] }, { accessFlags := 10, nameIndex := 66, descriptorIndex := 67, attributes := #[] }, { accessFlags := 10, nameIndex := 76, descriptorIndex := 77, attributes := #[] }, { accessFlags := 10, nameIndex := 70, descriptorIndex := 54, attributes := #[] }, { accessFlags := 9, nameIndex := 95, descriptorIndex := 96, attributes := #[] }] 49 2 #[] #[])
  fields := #[]
  methods := #[k1m0, k1m1, k1m2, k1m3, k1m4, k1m5, k1m6, k1m7, k1m8]
  instanceTypes := #[]
  staticTypes := #[]
  resolved := Array.replicate 101 none
  statics := none }

def pool2 : Array CpInfo := pool [(1, .methodref 2 3), (0, .class_ 4), (0, .nameAndType 5 6), (0, u "java/lang/Object"), (0, u "<init>"), (0, u "()V"), (0, .fieldref 8 9), (0, .class_ 10), (0, .nameAndType 11 12), (0, u "ReadinessPoller"), (0, u "readOpen"), (0, u "[Z"), (0, .fieldref 8 14), (0, .nameAndType 15 12), (0, u "writeOpen"), (0, .fieldref 8 17), (0, .nameAndType 18 19), (0, u "buf"), (0, u "[I"), (0, .fieldref 8 21), (0, .nameAndType 22 19), (0, u "head"), (0, .fieldref 8 24), (0, .nameAndType 25 19), (0, u "count"), (0, .fieldref 8 27), (0, .nameAndType 28 12), (0, u "regged"), (0, .fieldref 8 30), (0, .nameAndType 31 19), (0, u "word"), (0, .fieldref 8 33), (0, .nameAndType 34 12), (0, u "enabled"), (0, .fieldref 8 36), (0, .nameAndType 37 19), (0, u "pend"), (0, .fieldref 8 39), (0, .nameAndType 40 19), (0, u "resFd"), (0, .fieldref 8 42), (0, .nameAndType 43 19), (0, u "resMask"), (0, .methodref 8 45), (0, .nameAndType 46 47), (0, u "clamp"), (0, u "(III)I"), (0, .fieldref 8 49), (0, .nameAndType 50 51), (0, u "nPipes"), (0, u "I"), (0, .fieldref 8 53), (0, .nameAndType 54 51), (0, u "cap"), (0, .fieldref 8 56), (0, .nameAndType 57 51), (0, u "nPolls"), (0, .fieldref 8 59), (0, .nameAndType 60 51), (0, u "resN"), (0, .methodref 8 62), (0, .nameAndType 63 64), (0, u "rawReady"), (0, u "(I)I"), (0, .methodref 8 66), (0, .nameAndType 67 64), (0, u "watched"), (0, .methodref 8 69), (0, .nameAndType 70 71), (0, u "slot"), (0, u "(II)I"), (0, .methodref 8 73), (0, .nameAndType 74 75), (0, u "clearReg"), (0, u "(I)V"), (0, .methodref 8 77), (0, .nameAndType 78 79), (0, u "isOpen"), (0, u "(I)Z"), (0, .methodref 8 81), (0, .nameAndType 82 79), (0, u "validQ"), (0, .methodref 8 84), (0, .nameAndType 85 86), (0, u "edgeUpdate"), (0, u "(II)V"), (0, .methodref 8 88), (0, .nameAndType 89 75), (0, u "removeRegs"), (0, .methodref 8 91), (0, .nameAndType 92 79), (0, u "validWord"), (0, .methodref 8 94), (0, .nameAndType 95 96), (0, u "arm"), (0, u "(III)V"), (0, .methodref 8 98), (0, .nameAndType 99 71), (0, u "peek"), (0, .methodref 8 101), (0, .nameAndType 102 75), (0, u "consume"), (0, .methodref 8 104), (0, .nameAndType 105 71), (0, u "lookup"), (0, u "IN"), (2, u "OUT"), (1, u "HUP"), (1, u "ERR"), (1, u "EDGE"), (1, u "ONESHOT"), (1, u "DISABLED"), (1, u "OK"), (1, u "ERR_BADF"), (1, u "ERR_AGAIN"), (1, u "EOF"), (1, u "ERR_PIPE"), (1, u "ERR_EXIST"), (1, u "ERR_INVAL"), (1, u "ERR_NOENT"), (1, u "ERR_NOPIPE"), (4, u "createPipe"), (0, u "()I"), (0, u "write"), (0, u "read"), (0, u "closeFd"), (0, u "ctlAdd"), (0, u "ctlMod"), (0, u "ctlDel"), (0, u "wait"), (0, u "eventFd"), (0, u "eventMask"), (1, u "fdReadiness"), (0, u "regInfo"), (0, u "peekReady"), (0, u "readyCount")] 2

def k2c0 : Code := { maxStack := 5, maxLocals := 4, code := prog_1_method_1_code, exceptionTable := #[], attributes := #[] }
def k2m0 : Method := { name := "<init>", desc := "(III)V", sig := { parameters := [.int, .int, .int], returnType := none }, accessFlags := 1, code := some k2c0 }
def k2c1 : Code := { maxStack := 2, maxLocals := 4, code := prog_1_method_2_code, exceptionTable := #[], attributes := #[] }
def k2m1 : Method := { name := "clamp", desc := "(III)I", sig := { parameters := [.int, .int, .int], returnType := some .int }, accessFlags := 2, code := some k2c1 }
def k2c2 : Code := { maxStack := 3, maxLocals := 3, code := prog_1_method_3_code, exceptionTable := #[], attributes := #[] }
def k2m2 : Method := { name := "isOpen", desc := "(I)Z", sig := { parameters := [.int], returnType := some .boolean }, accessFlags := 2, code := some k2c2 }
def k2c3 : Code := { maxStack := 2, maxLocals := 4, code := prog_1_method_4_code, exceptionTable := #[], attributes := #[] }
def k2m3 : Method := { name := "rawReady", desc := "(I)I", sig := { parameters := [.int], returnType := some .int }, accessFlags := 2, code := some k2c3 }
def k2c4 : Code := { maxStack := 2, maxLocals := 2, code := prog_1_method_5_code, exceptionTable := #[], attributes := #[] }
def k2m4 : Method := { name := "watched", desc := "(I)I", sig := { parameters := [.int], returnType := some .int }, accessFlags := 2, code := some k2c4 }
def k2c5 : Code := { maxStack := 2, maxLocals := 2, code := prog_1_method_6_code, exceptionTable := #[], attributes := #[] }
def k2m5 : Method := { name := "validQ", desc := "(I)Z", sig := { parameters := [.int], returnType := some .boolean }, accessFlags := 2, code := some k2c5 }
def k2c6 : Code := { maxStack := 2, maxLocals := 2, code := prog_1_method_7_code, exceptionTable := #[], attributes := #[] }
def k2m6 : Method := { name := "validWord", desc := "(I)Z", sig := { parameters := [.int], returnType := some .boolean }, accessFlags := 2, code := some k2c6 }
def k2c7 : Code := { maxStack := 2, maxLocals := 3, code := prog_1_method_8_code, exceptionTable := #[], attributes := #[] }
def k2m7 : Method := { name := "slot", desc := "(II)I", sig := { parameters := [.int, .int], returnType := some .int }, accessFlags := 2, code := some k2c7 }
def k2c8 : Code := { maxStack := 4, maxLocals := 3, code := prog_1_method_9_code, exceptionTable := #[], attributes := #[] }
def k2m8 : Method := { name := "peek", desc := "(II)I", sig := { parameters := [.int, .int], returnType := some .int }, accessFlags := 2, code := some k2c8 }
def k2c9 : Code := { maxStack := 5, maxLocals := 4, code := prog_1_method_10_code, exceptionTable := #[], attributes := #[] }
def k2m9 : Method := { name := "arm", desc := "(III)V", sig := { parameters := [.int, .int, .int], returnType := none }, accessFlags := 2, code := some k2c9 }
def k2c10 : Code := { maxStack := 3, maxLocals := 2, code := prog_1_method_11_code, exceptionTable := #[], attributes := #[] }
def k2m10 : Method := { name := "clearReg", desc := "(I)V", sig := { parameters := [.int], returnType := none }, accessFlags := 2, code := some k2c10 }
def k2c11 : Code := { maxStack := 4, maxLocals := 3, code := prog_1_method_12_code, exceptionTable := #[], attributes := #[] }
def k2m11 : Method := { name := "removeRegs", desc := "(I)V", sig := { parameters := [.int], returnType := none }, accessFlags := 2, code := some k2c11 }
def k2c12 : Code := { maxStack := 6, maxLocals := 7, code := prog_1_method_13_code, exceptionTable := #[], attributes := #[] }
def k2m12 : Method := { name := "edgeUpdate", desc := "(II)V", sig := { parameters := [.int, .int], returnType := none }, accessFlags := 2, code := some k2c12 }
def k2c13 : Code := { maxStack := 3, maxLocals := 4, code := prog_1_method_14_code, exceptionTable := #[], attributes := #[] }
def k2m13 : Method := { name := "lookup", desc := "(II)I", sig := { parameters := [.int, .int], returnType := some .int }, accessFlags := 2, code := some k2c13 }
def k2c14 : Code := { maxStack := 3, maxLocals := 2, code := prog_1_method_15_code, exceptionTable := #[], attributes := #[] }
def k2m14 : Method := { name := "createPipe", desc := "()I", sig := { parameters := [], returnType := some .int }, accessFlags := 1, code := some k2c14 }
def k2c15 : Code := { maxStack := 4, maxLocals := 7, code := prog_1_method_16_code, exceptionTable := #[], attributes := #[] }
def k2m15 : Method := { name := "write", desc := "(II)I", sig := { parameters := [.int, .int], returnType := some .int }, accessFlags := 1, code := some k2c15 }
def k2c16 : Code := { maxStack := 4, maxLocals := 6, code := prog_1_method_17_code, exceptionTable := #[], attributes := #[] }
def k2m16 : Method := { name := "read", desc := "(I)I", sig := { parameters := [.int], returnType := some .int }, accessFlags := 1, code := some k2c16 }
def k2c17 : Code := { maxStack := 3, maxLocals := 5, code := prog_1_method_18_code, exceptionTable := #[], attributes := #[] }
def k2m17 : Method := { name := "closeFd", desc := "(I)I", sig := { parameters := [.int], returnType := some .int }, accessFlags := 1, code := some k2c17 }
def k2c18 : Code := { maxStack := 4, maxLocals := 5, code := prog_1_method_19_code, exceptionTable := #[], attributes := #[] }
def k2m18 : Method := { name := "ctlAdd", desc := "(III)I", sig := { parameters := [.int, .int, .int], returnType := some .int }, accessFlags := 1, code := some k2c18 }
def k2c19 : Code := { maxStack := 4, maxLocals := 5, code := prog_1_method_20_code, exceptionTable := #[], attributes := #[] }
def k2m19 : Method := { name := "ctlMod", desc := "(III)I", sig := { parameters := [.int, .int, .int], returnType := some .int }, accessFlags := 1, code := some k2c19 }
def k2c20 : Code := { maxStack := 3, maxLocals := 4, code := prog_1_method_21_code, exceptionTable := #[], attributes := #[] }
def k2m20 : Method := { name := "ctlDel", desc := "(II)I", sig := { parameters := [.int, .int], returnType := some .int }, accessFlags := 1, code := some k2c20 }
def k2c21 : Code := { maxStack := 3, maxLocals := 9, code := prog_1_method_22_code, exceptionTable := #[], attributes := #[] }
def k2m21 : Method := { name := "wait", desc := "(II)I", sig := { parameters := [.int, .int], returnType := some .int }, accessFlags := 1, code := some k2c21 }
def k2c22 : Code := { maxStack := 3, maxLocals := 2, code := prog_1_method_23_code, exceptionTable := #[], attributes := #[] }
def k2m22 : Method := { name := "consume", desc := "(I)V", sig := { parameters := [.int], returnType := none }, accessFlags := 2, code := some k2c22 }
def k2c23 : Code := { maxStack := 2, maxLocals := 2, code := prog_1_method_24_code, exceptionTable := #[], attributes := #[] }
def k2m23 : Method := { name := "eventFd", desc := "(I)I", sig := { parameters := [.int], returnType := some .int }, accessFlags := 1, code := some k2c23 }
def k2c24 : Code := { maxStack := 2, maxLocals := 2, code := prog_1_method_25_code, exceptionTable := #[], attributes := #[] }
def k2m24 : Method := { name := "eventMask", desc := "(I)I", sig := { parameters := [.int], returnType := some .int }, accessFlags := 1, code := some k2c24 }
def k2c25 : Code := { maxStack := 2, maxLocals := 2, code := prog_1_method_27_code, exceptionTable := #[], attributes := #[] }
def k2m25 : Method := { name := "fdReadiness", desc := "(I)I", sig := { parameters := [.int], returnType := some .int }, accessFlags := 1, code := some k2c25 }
def k2c26 : Code := { maxStack := 3, maxLocals := 5, code := prog_1_method_28_code, exceptionTable := #[], attributes := #[] }
def k2m26 : Method := { name := "regInfo", desc := "(II)I", sig := { parameters := [.int, .int], returnType := some .int }, accessFlags := 1, code := some k2c26 }
def k2c27 : Code := { maxStack := 3, maxLocals := 4, code := prog_1_method_29_code, exceptionTable := #[], attributes := #[] }
def k2m27 : Method := { name := "peekReady", desc := "(II)I", sig := { parameters := [.int, .int], returnType := some .int }, accessFlags := 1, code := some k2c27 }
def k2c28 : Code := { maxStack := 3, maxLocals := 6, code := prog_1_method_30_code, exceptionTable := #[], attributes := #[] }
def k2m28 : Method := { name := "readyCount", desc := "(I)I", sig := { parameters := [.int], returnType := some .int }, accessFlags := 1, code := some k2c28 }
/-- ReadinessPoller -/
def k2 : Class := { plain "ReadinessPoller" (some 0) with
  accessFlags := 49
  interfaces := #[]
  cf := some (fileOf pool2 8 #[] #[{ accessFlags := 1, nameIndex := 5, descriptorIndex := 96, attributes := #[] }, { accessFlags := 2, nameIndex := 46, descriptorIndex := 47, attributes := #[] }, { accessFlags := 2, nameIndex := 78, descriptorIndex := 79, attributes := #[] }, { accessFlags := 2, nameIndex := 63, descriptorIndex := 64, attributes := #[] }, { accessFlags := 2, nameIndex := 67, descriptorIndex := 64, attributes := #[] }, { accessFlags := 2, nameIndex := 82, descriptorIndex := 79, attributes := #[] }, { accessFlags := 2, nameIndex := 92, descriptorIndex := 79, attributes := #[] }, { accessFlags := 2, nameIndex := 70, descriptorIndex := 71, attributes := #[] }, { accessFlags := 2, nameIndex := 99, descriptorIndex := 71, attributes := #[] }, { accessFlags := 2, nameIndex := 95, descriptorIndex := 96, attributes := #[] }, { accessFlags := 2, nameIndex := 74, descriptorIndex := 75, attributes := #[] }, { accessFlags := 2, nameIndex := 89, descriptorIndex := 75, attributes := #[] }, { accessFlags := 2, nameIndex := 85, descriptorIndex := 86, attributes := #[] }, { accessFlags := 2, nameIndex := 105, descriptorIndex := 71, attributes := #[] }, { accessFlags := 1, nameIndex := 142, descriptorIndex := 143, attributes := #[] }, { accessFlags := 1, nameIndex := 144, descriptorIndex := 71, attributes := #[] }, { accessFlags := 1, nameIndex := 145, descriptorIndex := 64, attributes := #[] }, { accessFlags := 1, nameIndex := 146, descriptorIndex := 64, attributes := #[] }, { accessFlags := 1, nameIndex := 147, descriptorIndex := 47, attributes := #[] }, { accessFlags := 1, nameIndex := 148, descriptorIndex := 47, attributes := #[] }, { accessFlags := 1, nameIndex := 149, descriptorIndex := 71, attributes := #[] }, { accessFlags := 1, nameIndex := 150, descriptorIndex := 71, attributes := #[] }, { accessFlags := 2, nameIndex := 102, descriptorIndex := 75, attributes := #[] }, { accessFlags := 1, nameIndex := 151, descriptorIndex := 64, attributes := #[] }, { accessFlags := 1, nameIndex := 152, descriptorIndex := 64, attributes := #[] }, { accessFlags := 1, nameIndex := 154, descriptorIndex := 64, attributes := #[] }, { accessFlags := 1, nameIndex := 155, descriptorIndex := 71, attributes := #[] }, { accessFlags := 1, nameIndex := 156, descriptorIndex := 71, attributes := #[] }, { accessFlags := 1, nameIndex := 157, descriptorIndex := 64, attributes := #[] }] 49 2 #[] #[{ accessFlags := 25, nameIndex := 106, descriptorIndex := 51, attributes := #[] }, { accessFlags := 25, nameIndex := 109, descriptorIndex := 51, attributes := #[] }, { accessFlags := 25, nameIndex := 111, descriptorIndex := 51, attributes := #[] }, { accessFlags := 25, nameIndex := 113, descriptorIndex := 51, attributes := #[] }, { accessFlags := 25, nameIndex := 115, descriptorIndex := 51, attributes := #[] }, { accessFlags := 25, nameIndex := 117, descriptorIndex := 51, attributes := #[] }, { accessFlags := 25, nameIndex := 119, descriptorIndex := 51, attributes := #[] }, { accessFlags := 25, nameIndex := 121, descriptorIndex := 51, attributes := #[] }, { accessFlags := 25, nameIndex := 123, descriptorIndex := 51, attributes := #[] }, { accessFlags := 25, nameIndex := 125, descriptorIndex := 51, attributes := #[] }, { accessFlags := 25, nameIndex := 127, descriptorIndex := 51, attributes := #[] }, { accessFlags := 25, nameIndex := 129, descriptorIndex := 51, attributes := #[] }, { accessFlags := 25, nameIndex := 131, descriptorIndex := 51, attributes := #[] }, { accessFlags := 25, nameIndex := 133, descriptorIndex := 51, attributes := #[] }, { accessFlags := 25, nameIndex := 135, descriptorIndex := 51, attributes := #[] }, { accessFlags := 25, nameIndex := 137, descriptorIndex := 51, attributes := #[] }, { accessFlags := 2, nameIndex := 50, descriptorIndex := 51, attributes := #[] }, { accessFlags := 2, nameIndex := 54, descriptorIndex := 51, attributes := #[] }, { accessFlags := 2, nameIndex := 57, descriptorIndex := 51, attributes := #[] }, { accessFlags := 2, nameIndex := 11, descriptorIndex := 12, attributes := #[] }, { accessFlags := 2, nameIndex := 15, descriptorIndex := 12, attributes := #[] }, { accessFlags := 2, nameIndex := 18, descriptorIndex := 19, attributes := #[] }, { accessFlags := 2, nameIndex := 22, descriptorIndex := 19, attributes := #[] }, { accessFlags := 2, nameIndex := 25, descriptorIndex := 19, attributes := #[] }, { accessFlags := 2, nameIndex := 28, descriptorIndex := 12, attributes := #[] }, { accessFlags := 2, nameIndex := 31, descriptorIndex := 19, attributes := #[] }, { accessFlags := 2, nameIndex := 34, descriptorIndex := 12, attributes := #[] }, { accessFlags := 2, nameIndex := 37, descriptorIndex := 19, attributes := #[] }, { accessFlags := 2, nameIndex := 40, descriptorIndex := 19, attributes := #[] }, { accessFlags := 2, nameIndex := 43, descriptorIndex := 19, attributes := #[] }, { accessFlags := 2, nameIndex := 60, descriptorIndex := 51, attributes := #[] }])
  fields := #[{ name := "IN", type := .int, accessFlags := 25, slot := 0, constantValue := 0 }, { name := "OUT", type := .int, accessFlags := 25, slot := 1, constantValue := 0 }, { name := "HUP", type := .int, accessFlags := 25, slot := 2, constantValue := 0 }, { name := "ERR", type := .int, accessFlags := 25, slot := 3, constantValue := 0 }, { name := "EDGE", type := .int, accessFlags := 25, slot := 4, constantValue := 0 }, { name := "ONESHOT", type := .int, accessFlags := 25, slot := 5, constantValue := 0 }, { name := "DISABLED", type := .int, accessFlags := 25, slot := 6, constantValue := 0 }, { name := "OK", type := .int, accessFlags := 25, slot := 7, constantValue := 0 }, { name := "ERR_BADF", type := .int, accessFlags := 25, slot := 8, constantValue := 0 }, { name := "ERR_AGAIN", type := .int, accessFlags := 25, slot := 9, constantValue := 0 }, { name := "EOF", type := .int, accessFlags := 25, slot := 10, constantValue := 0 }, { name := "ERR_PIPE", type := .int, accessFlags := 25, slot := 11, constantValue := 0 }, { name := "ERR_EXIST", type := .int, accessFlags := 25, slot := 12, constantValue := 0 }, { name := "ERR_INVAL", type := .int, accessFlags := 25, slot := 13, constantValue := 0 }, { name := "ERR_NOENT", type := .int, accessFlags := 25, slot := 14, constantValue := 0 }, { name := "ERR_NOPIPE", type := .int, accessFlags := 25, slot := 15, constantValue := 0 }, { name := "nPipes", type := .int, accessFlags := 2, slot := 0, constantValue := 0 }, { name := "cap", type := .int, accessFlags := 2, slot := 1, constantValue := 0 }, { name := "nPolls", type := .int, accessFlags := 2, slot := 2, constantValue := 0 }, { name := "readOpen", type := (.array .boolean), accessFlags := 2, slot := 3, constantValue := 0 }, { name := "writeOpen", type := (.array .boolean), accessFlags := 2, slot := 4, constantValue := 0 }, { name := "buf", type := (.array .int), accessFlags := 2, slot := 5, constantValue := 0 }, { name := "head", type := (.array .int), accessFlags := 2, slot := 6, constantValue := 0 }, { name := "count", type := (.array .int), accessFlags := 2, slot := 7, constantValue := 0 }, { name := "regged", type := (.array .boolean), accessFlags := 2, slot := 8, constantValue := 0 }, { name := "word", type := (.array .int), accessFlags := 2, slot := 9, constantValue := 0 }, { name := "enabled", type := (.array .boolean), accessFlags := 2, slot := 10, constantValue := 0 }, { name := "pend", type := (.array .int), accessFlags := 2, slot := 11, constantValue := 0 }, { name := "resFd", type := (.array .int), accessFlags := 2, slot := 12, constantValue := 0 }, { name := "resMask", type := (.array .int), accessFlags := 2, slot := 13, constantValue := 0 }, { name := "resN", type := .int, accessFlags := 2, slot := 14, constantValue := 0 }]
  methods := #[k2m0, k2m1, k2m2, k2m3, k2m4, k2m5, k2m6, k2m7, k2m8, k2m9, k2m10, k2m11, k2m12, k2m13, k2m14, k2m15, k2m16, k2m17, k2m18, k2m19, k2m20, k2m21, k2m22, k2m23, k2m24, k2m25, k2m26, k2m27, k2m28]
  instanceTypes := #[.int, .int, .int, (.array .boolean), (.array .boolean), (.array .int), (.array .int), (.array .int), (.array .boolean), (.array .int), (.array .boolean), (.array .int), (.array .int), (.array .int), .int]
  staticTypes := #[.int, .int, .int, .int, .int, .int, .int, .int, .int, .int, .int, .int, .int, .int, .int, .int]
  resolved := Array.replicate 160 none
  statics := none }

def pool3 : Array CpInfo := pool [(1, u "java/lang/Cloneable"), (0, .class_ 1), (0, u "java/lang/Object"), (0, .class_ 3)] 3

/-- java/lang/Cloneable -/
def k3 : Class := { plain "java/lang/Cloneable" (some 0) with
  accessFlags := 1537
  interfaces := #[]
  cf := some (fileOf pool3 2 #[] #[] 1537 4 #[] #[])
  fields := #[]
  methods := #[]
  instanceTypes := #[]
  staticTypes := #[]
  resolved := Array.replicate 8 none
  statics := none }

def pool4 : Array CpInfo := pool [(1, u "java/io/Serializable"), (0, .class_ 1), (0, u "java/lang/Object"), (0, .class_ 3)] 3

/-- java/io/Serializable -/
def k4 : Class := { plain "java/io/Serializable" (some 0) with
  accessFlags := 1537
  interfaces := #[]
  cf := some (fileOf pool4 2 #[] #[] 1537 4 #[] #[])
  fields := #[]
  methods := #[]
  instanceTypes := #[]
  staticTypes := #[]
  resolved := Array.replicate 8 none
  statics := none }

/-- the primitive boolean -/
def k5 : Class := { plain "boolean" none with kind := .primitive 'Z', accessFlags := 0x411 }
/-- [Z -/
def k6 : Class := { plain "[Z" (some 0) with kind := .array 5 .boolean, interfaces := #[3, 4], accessFlags := 1041 }

/-- the primitive byte -/
def k7 : Class := { plain "byte" none with kind := .primitive 'B', accessFlags := 0x411 }
/-- [B -/
def k8 : Class := { plain "[B" (some 0) with kind := .array 7 .byte, interfaces := #[3, 4], accessFlags := 1041 }

/-- the primitive int -/
def k9 : Class := { plain "int" none with kind := .primitive 'I', accessFlags := 0x411 }
/-- [I -/
def k10 : Class := { plain "[I" (some 0) with kind := .array 9 .int, interfaces := #[3, 4], accessFlags := 1041 }

def heap : Heap := #[{ cls := 10, slots := #[.int 1, .int 2, .int 3], vm := .none }]
def classes : Array Class := #[k0, k1, k2, k3, k4, k5, k6, k7, k8, k9, k10]
def interned : List (Array UInt16 × Addr) := []
def slotsUsed : Nat := 3
def theMethod : MethodId := ⟨1, 8⟩
def args0 : Array Value := #[.ref 0]
def aboutOver (below : List Frame) : State where
  vm := { classes := classes, interned := interned.toArray }
  heap := heap
  slotsUsed := slotsUsed
  threads := #[{ frames := .invoking theMethod args0 :: below }]
def below0 : List Frame := [.native { method := ⟨0, 0⟩, args := #[] }]
def about1 : State := aboutOver below0
def p0 : Program := .bare "" "" ""
def e0 : Env := launch0.env 0 0 0
theorem w_frames : about1.frames = Frame.invoking theMethod args0 :: below0 := rfl
set_option maxRecDepth 65536 in
theorem w_args : argsFit about1.vm theMethod args0 = true := by decide +kernel
set_option maxRecDepth 65536 in
theorem w_heap : heapFits about1 = true := by decide +kernel
set_option maxRecDepth 65536 in
theorem w_runnable : about1.curStatus? = some .runnable := by decide +kernel
set_option maxRecDepth 65536 in
theorem w_alone : about1.alone = true := by decide +kernel
set_option maxRecDepth 65536 in
theorem w_named : about1.methodNamed? x = some theMethod := by decide +kernel
set_option maxRecDepth 65536 in
theorem w_hears : about1.hears theMethod below0 = true := by decide +kernel
set_option maxRecDepth 65536 in
theorem w_ripe : about1.ripe theMethod args0 below0 = true := by decide +kernel
theorem w_running : about1.status = .running := rfl
set_option maxRecDepth 65536 in
theorem w_room : about1.hasRoom e0.platform room_1 = true :=
  launch0.hasRoom_least _ room_1 (by decide +kernel) (by decide +kernel) (by decide +kernel) (by decide +kernel) (by decide +kernel) (by decide +kernel)
theorem allAtoms_all (ts : List Jvm.Cond) (a : Array Jvm.Value) (st : Jvm.State) : (allAtoms ts).before a st = ts.all (fun c => c.before a st) := by
  induction ts with
  | nil => rfl
  | cons c t ih =>
    show (Jvm.Cond.and c (allAtoms t)).before a st = _
    rw [Jvm.Cond.before_and, ih, List.all_cons]
def words1 : List Jvm.Cond := Jvm.Cond.code x code maxLocals ret :: tables_1
/-- a 'code' word, met by the world's own term for the bytes: nothing is compared byte by byte -/
theorem code_word {y : MethodName} {bytes : ByteArray} {mx : Nat} {rt : Option FieldType} {a : Array Value} {s : State} {m : MethodId} {meth : Method} {c : Code} (h1 : s.methodNamed? y = some m) (h2 : s.vm.method? m = some meth) (h3 : meth.code = some c) (h4 : c.code = bytes)
    (h5 : (c.maxLocals == mx && c.exceptionTable.isEmpty && decide (c.maxStack ≤ mostOperands) && decide (meth.sig.returnType = rt) && !meth.locks && decide (parseMethodDescriptor y.desc = some meth.sig)) = true) : (Jvm.Cond.code y bytes mx rt).before a s = true := by
  simp only [Bool.and_eq_true, beq_iff_eq, Bool.not_eq_true', decide_eq_true_eq] at h5
  obtain ⟨⟨⟨⟨⟨g1, g2⟩, g3⟩, g4⟩, g5⟩, g6⟩ := h5
  simp [Cond.before, Cond.holds, Cond.value, h1, h2, h3, h4, g1, g2, g3, g4, g5, g6]
def isCode : Jvm.Cond → Bool
  | .code _ _ _ _ => true
  | _ => false
theorem all_split {L : List Jvm.Cond} {P : Jvm.Cond → Bool} (h1 : L.all (fun c => isCode c || P c) = true) (h2 : ∀ c ∈ L.filter isCode, P c = true) : L.all P = true := by
  refine List.all_eq_true.mpr fun c hc => ?_
  have h := List.all_eq_true.mp h1 c hc
  rcases Bool.eq_false_or_eq_true (isCode c) with hi | hi
  · exact h2 c (List.mem_filter.mpr ⟨hc, hi⟩)
  · simpa [hi] using h
set_option maxRecDepth 65536 in
theorem w_c0 : (Jvm.Cond.code x code maxLocals ret).before args0 about1 = true := code_word (m := ⟨1, 8⟩) (meth := k1m8) (c := k1c8) (by decide +kernel) rfl rfl rfl (by decide +kernel)
set_option maxRecDepth 65536 in
theorem w_c1 : (Jvm.Cond.code ({ cls := "ReadinessPollerOwnLaw", name := "cell", desc := "([II)I" } : Jvm.MethodName) method_2_code (2 : Nat) (Option.some Jvm.ClassFile.FieldType.int)).before args0 about1 = true := code_word (m := ⟨1, 1⟩) (meth := k1m1) (c := k1c1) (by decide +kernel) rfl rfl rfl (by decide +kernel)
set_option maxRecDepth 65536 in
theorem w_c2 : (Jvm.Cond.code ({ cls := "ReadinessPollerOwnLaw", name := "pos", desc := "(II)I" } : Jvm.MethodName) method_3_code (3 : Nat) (Option.some Jvm.ClassFile.FieldType.int)).before args0 about1 = true := code_word (m := ⟨1, 2⟩) (meth := k1m2) (c := k1c2) (by decide +kernel) rfl rfl rfl (by decide +kernel)
set_option maxRecDepth 65536 in
theorem w_c3 : (Jvm.Cond.code ({ cls := "ReadinessPoller", name := "<init>", desc := "(III)V" } : Jvm.MethodName) prog_1_method_1_code (4 : Nat) (Option.none : Option Jvm.ClassFile.FieldType)).before args0 about1 = true := code_word (m := ⟨2, 0⟩) (meth := k2m0) (c := k2c0) (by decide +kernel) rfl rfl rfl (by decide +kernel)
set_option maxRecDepth 65536 in
theorem w_c4 : (Jvm.Cond.code ({ cls := "java/lang/Object", name := "<init>", desc := "()V" } : Jvm.MethodName) object_method_1_code (1 : Nat) (Option.none : Option Jvm.ClassFile.FieldType)).before args0 about1 = true := code_word (m := ⟨0, 0⟩) (meth := k0m0) (c := k0c0) (by decide +kernel) rfl rfl rfl (by decide +kernel)
set_option maxRecDepth 65536 in
theorem w_c5 : (Jvm.Cond.code ({ cls := "ReadinessPoller", name := "clamp", desc := "(III)I" } : Jvm.MethodName) prog_1_method_2_code (4 : Nat) (Option.some Jvm.ClassFile.FieldType.int)).before args0 about1 = true := code_word (m := ⟨2, 1⟩) (meth := k2m1) (c := k2c1) (by decide +kernel) rfl rfl rfl (by decide +kernel)
set_option maxRecDepth 65536 in
theorem w_c6 : (Jvm.Cond.code ({ cls := "ReadinessPollerOwnLaw", name := "readyAll", desc := "(LReadinessPoller;)I" } : Jvm.MethodName) method_5_code (3 : Nat) (Option.some Jvm.ClassFile.FieldType.int)).before args0 about1 = true := code_word (m := ⟨1, 4⟩) (meth := k1m4) (c := k1c4) (by decide +kernel) rfl rfl rfl (by decide +kernel)
set_option maxRecDepth 65536 in
theorem w_c7 : (Jvm.Cond.code ({ cls := "ReadinessPollerOwnLaw", name := "rd", desc := "(LReadinessPoller;I)I" } : Jvm.MethodName) method_4_code (3 : Nat) (Option.some Jvm.ClassFile.FieldType.int)).before args0 about1 = true := code_word (m := ⟨1, 3⟩) (meth := k1m3) (c := k1c3) (by decide +kernel) rfl rfl rfl (by decide +kernel)
set_option maxRecDepth 65536 in
theorem w_c8 : (Jvm.Cond.code ({ cls := "ReadinessPoller", name := "fdReadiness", desc := "(I)I" } : Jvm.MethodName) prog_1_method_27_code (2 : Nat) (Option.some Jvm.ClassFile.FieldType.int)).before args0 about1 = true := code_word (m := ⟨2, 25⟩) (meth := k2m25) (c := k2c25) (by decide +kernel) rfl rfl rfl (by decide +kernel)
set_option maxRecDepth 65536 in
theorem w_c9 : (Jvm.Cond.code ({ cls := "ReadinessPoller", name := "isOpen", desc := "(I)Z" } : Jvm.MethodName) prog_1_method_3_code (3 : Nat) (Option.some Jvm.ClassFile.FieldType.boolean)).before args0 about1 = true := code_word (m := ⟨2, 2⟩) (meth := k2m2) (c := k2c2) (by decide +kernel) rfl rfl rfl (by decide +kernel)
set_option maxRecDepth 65536 in
theorem w_c10 : (Jvm.Cond.code ({ cls := "ReadinessPoller", name := "write", desc := "(II)I" } : Jvm.MethodName) prog_1_method_16_code (7 : Nat) (Option.some Jvm.ClassFile.FieldType.int)).before args0 about1 = true := code_word (m := ⟨2, 15⟩) (meth := k2m15) (c := k2c15) (by decide +kernel) rfl rfl rfl (by decide +kernel)
set_option maxRecDepth 65536 in
theorem w_c11 : (Jvm.Cond.code ({ cls := "ReadinessPollerOwnLaw", name := "nib", desc := "(JI)I" } : Jvm.MethodName) method_6_code (3 : Nat) (Option.some Jvm.ClassFile.FieldType.int)).before args0 about1 = true := code_word (m := ⟨1, 5⟩) (meth := k1m5) (c := k1c5) (by decide +kernel) rfl rfl rfl (by decide +kernel)
set_option maxRecDepth 65536 in
theorem w_c12 : (Jvm.Cond.code ({ cls := "ReadinessPollerOwnLaw", name := "setNib", desc := "(JII)J" } : Jvm.MethodName) method_7_code (4 : Nat) (Option.some Jvm.ClassFile.FieldType.long)).before args0 about1 = true := code_word (m := ⟨1, 6⟩) (meth := k1m6) (c := k1c6) (by decide +kernel) rfl rfl rfl (by decide +kernel)
set_option maxRecDepth 65536 in
theorem w_c13 : (Jvm.Cond.code ({ cls := "ReadinessPoller", name := "regInfo", desc := "(II)I" } : Jvm.MethodName) prog_1_method_28_code (5 : Nat) (Option.some Jvm.ClassFile.FieldType.int)).before args0 about1 = true := code_word (m := ⟨2, 26⟩) (meth := k2m26) (c := k2c26) (by decide +kernel) rfl rfl rfl (by decide +kernel)
set_option maxRecDepth 65536 in
theorem w_c14 : (Jvm.Cond.code ({ cls := "ReadinessPoller", name := "lookup", desc := "(II)I" } : Jvm.MethodName) prog_1_method_14_code (4 : Nat) (Option.some Jvm.ClassFile.FieldType.int)).before args0 about1 = true := code_word (m := ⟨2, 13⟩) (meth := k2m13) (c := k2c13) (by decide +kernel) rfl rfl rfl (by decide +kernel)
set_option maxRecDepth 65536 in
theorem w_c15 : (Jvm.Cond.code ({ cls := "ReadinessPoller", name := "validQ", desc := "(I)Z" } : Jvm.MethodName) prog_1_method_6_code (2 : Nat) (Option.some Jvm.ClassFile.FieldType.boolean)).before args0 about1 = true := code_word (m := ⟨2, 5⟩) (meth := k2m5) (c := k2c5) (by decide +kernel) rfl rfl rfl (by decide +kernel)
set_option maxRecDepth 65536 in
theorem w_c16 : (Jvm.Cond.code ({ cls := "ReadinessPollerOwnLaw", name := "expect", desc := "(III)I" } : Jvm.MethodName) method_8_code (4 : Nat) (Option.some Jvm.ClassFile.FieldType.int)).before args0 about1 = true := code_word (m := ⟨1, 7⟩) (meth := k1m7) (c := k1c7) (by decide +kernel) rfl rfl rfl (by decide +kernel)
set_option maxRecDepth 65536 in
theorem w_c17 : (Jvm.Cond.code ({ cls := "ReadinessPoller", name := "peekReady", desc := "(II)I" } : Jvm.MethodName) prog_1_method_29_code (4 : Nat) (Option.some Jvm.ClassFile.FieldType.int)).before args0 about1 = true := code_word (m := ⟨2, 27⟩) (meth := k2m27) (c := k2c27) (by decide +kernel) rfl rfl rfl (by decide +kernel)
set_option maxRecDepth 65536 in
theorem w_c18 : (Jvm.Cond.code ({ cls := "ReadinessPoller", name := "readyCount", desc := "(I)I" } : Jvm.MethodName) prog_1_method_30_code (6 : Nat) (Option.some Jvm.ClassFile.FieldType.int)).before args0 about1 = true := code_word (m := ⟨2, 28⟩) (meth := k2m28) (c := k2c28) (by decide +kernel) rfl rfl rfl (by decide +kernel)
set_option maxRecDepth 65536 in
theorem w_c19 : (Jvm.Cond.code ({ cls := "ReadinessPoller", name := "slot", desc := "(II)I" } : Jvm.MethodName) prog_1_method_8_code (3 : Nat) (Option.some Jvm.ClassFile.FieldType.int)).before args0 about1 = true := code_word (m := ⟨2, 7⟩) (meth := k2m7) (c := k2c7) (by decide +kernel) rfl rfl rfl (by decide +kernel)
set_option maxRecDepth 65536 in
theorem w_c20 : (Jvm.Cond.code ({ cls := "ReadinessPoller", name := "read", desc := "(I)I" } : Jvm.MethodName) prog_1_method_17_code (6 : Nat) (Option.some Jvm.ClassFile.FieldType.int)).before args0 about1 = true := code_word (m := ⟨2, 16⟩) (meth := k2m16) (c := k2c16) (by decide +kernel) rfl rfl rfl (by decide +kernel)
set_option maxRecDepth 65536 in
theorem w_c21 : (Jvm.Cond.code ({ cls := "ReadinessPoller", name := "createPipe", desc := "()I" } : Jvm.MethodName) prog_1_method_15_code (2 : Nat) (Option.some Jvm.ClassFile.FieldType.int)).before args0 about1 = true := code_word (m := ⟨2, 14⟩) (meth := k2m14) (c := k2c14) (by decide +kernel) rfl rfl rfl (by decide +kernel)
set_option maxRecDepth 65536 in
theorem w_c22 : (Jvm.Cond.code ({ cls := "ReadinessPoller", name := "rawReady", desc := "(I)I" } : Jvm.MethodName) prog_1_method_4_code (4 : Nat) (Option.some Jvm.ClassFile.FieldType.int)).before args0 about1 = true := code_word (m := ⟨2, 3⟩) (meth := k2m3) (c := k2c3) (by decide +kernel) rfl rfl rfl (by decide +kernel)
set_option maxRecDepth 65536 in
theorem w_c23 : (Jvm.Cond.code ({ cls := "ReadinessPoller", name := "edgeUpdate", desc := "(II)V" } : Jvm.MethodName) prog_1_method_13_code (7 : Nat) (Option.none : Option Jvm.ClassFile.FieldType)).before args0 about1 = true := code_word (m := ⟨2, 12⟩) (meth := k2m12) (c := k2c12) (by decide +kernel) rfl rfl rfl (by decide +kernel)
set_option maxRecDepth 65536 in
theorem w_c24 : (Jvm.Cond.code ({ cls := "ReadinessPoller", name := "wait", desc := "(II)I" } : Jvm.MethodName) prog_1_method_22_code (9 : Nat) (Option.some Jvm.ClassFile.FieldType.int)).before args0 about1 = true := code_word (m := ⟨2, 21⟩) (meth := k2m21) (c := k2c21) (by decide +kernel) rfl rfl rfl (by decide +kernel)
set_option maxRecDepth 65536 in
theorem w_c25 : (Jvm.Cond.code ({ cls := "ReadinessPoller", name := "ctlMod", desc := "(III)I" } : Jvm.MethodName) prog_1_method_20_code (5 : Nat) (Option.some Jvm.ClassFile.FieldType.int)).before args0 about1 = true := code_word (m := ⟨2, 19⟩) (meth := k2m19) (c := k2c19) (by decide +kernel) rfl rfl rfl (by decide +kernel)
set_option maxRecDepth 65536 in
theorem w_c26 : (Jvm.Cond.code ({ cls := "ReadinessPoller", name := "validWord", desc := "(I)Z" } : Jvm.MethodName) prog_1_method_7_code (2 : Nat) (Option.some Jvm.ClassFile.FieldType.boolean)).before args0 about1 = true := code_word (m := ⟨2, 6⟩) (meth := k2m6) (c := k2c6) (by decide +kernel) rfl rfl rfl (by decide +kernel)
set_option maxRecDepth 65536 in
theorem w_c27 : (Jvm.Cond.code ({ cls := "ReadinessPoller", name := "closeFd", desc := "(I)I" } : Jvm.MethodName) prog_1_method_18_code (5 : Nat) (Option.some Jvm.ClassFile.FieldType.int)).before args0 about1 = true := code_word (m := ⟨2, 17⟩) (meth := k2m17) (c := k2c17) (by decide +kernel) rfl rfl rfl (by decide +kernel)
set_option maxRecDepth 65536 in
theorem w_c28 : (Jvm.Cond.code ({ cls := "ReadinessPoller", name := "ctlAdd", desc := "(III)I" } : Jvm.MethodName) prog_1_method_19_code (5 : Nat) (Option.some Jvm.ClassFile.FieldType.int)).before args0 about1 = true := code_word (m := ⟨2, 18⟩) (meth := k2m18) (c := k2c18) (by decide +kernel) rfl rfl rfl (by decide +kernel)
set_option maxRecDepth 65536 in
theorem w_c29 : (Jvm.Cond.code ({ cls := "ReadinessPoller", name := "ctlDel", desc := "(II)I" } : Jvm.MethodName) prog_1_method_21_code (4 : Nat) (Option.some Jvm.ClassFile.FieldType.int)).before args0 about1 = true := code_word (m := ⟨2, 20⟩) (meth := k2m20) (c := k2c20) (by decide +kernel) rfl rfl rfl (by decide +kernel)
set_option maxRecDepth 65536 in
theorem w_c30 : (Jvm.Cond.code ({ cls := "ReadinessPoller", name := "arm", desc := "(III)V" } : Jvm.MethodName) prog_1_method_10_code (4 : Nat) (Option.none : Option Jvm.ClassFile.FieldType)).before args0 about1 = true := code_word (m := ⟨2, 9⟩) (meth := k2m9) (c := k2c9) (by decide +kernel) rfl rfl rfl (by decide +kernel)
set_option maxRecDepth 65536 in
theorem w_c31 : (Jvm.Cond.code ({ cls := "ReadinessPoller", name := "watched", desc := "(I)I" } : Jvm.MethodName) prog_1_method_5_code (2 : Nat) (Option.some Jvm.ClassFile.FieldType.int)).before args0 about1 = true := code_word (m := ⟨2, 4⟩) (meth := k2m4) (c := k2c4) (by decide +kernel) rfl rfl rfl (by decide +kernel)
set_option maxRecDepth 65536 in
theorem w_c32 : (Jvm.Cond.code ({ cls := "ReadinessPoller", name := "peek", desc := "(II)I" } : Jvm.MethodName) prog_1_method_9_code (3 : Nat) (Option.some Jvm.ClassFile.FieldType.int)).before args0 about1 = true := code_word (m := ⟨2, 8⟩) (meth := k2m8) (c := k2c8) (by decide +kernel) rfl rfl rfl (by decide +kernel)
set_option maxRecDepth 65536 in
theorem w_c33 : (Jvm.Cond.code ({ cls := "ReadinessPoller", name := "consume", desc := "(I)V" } : Jvm.MethodName) prog_1_method_23_code (2 : Nat) (Option.none : Option Jvm.ClassFile.FieldType)).before args0 about1 = true := code_word (m := ⟨2, 22⟩) (meth := k2m22) (c := k2c22) (by decide +kernel) rfl rfl rfl (by decide +kernel)
set_option maxRecDepth 65536 in
theorem w_c34 : (Jvm.Cond.code ({ cls := "ReadinessPoller", name := "eventFd", desc := "(I)I" } : Jvm.MethodName) prog_1_method_24_code (2 : Nat) (Option.some Jvm.ClassFile.FieldType.int)).before args0 about1 = true := code_word (m := ⟨2, 23⟩) (meth := k2m23) (c := k2c23) (by decide +kernel) rfl rfl rfl (by decide +kernel)
set_option maxRecDepth 65536 in
theorem w_c35 : (Jvm.Cond.code ({ cls := "ReadinessPoller", name := "eventMask", desc := "(I)I" } : Jvm.MethodName) prog_1_method_25_code (2 : Nat) (Option.some Jvm.ClassFile.FieldType.int)).before args0 about1 = true := code_word (m := ⟨2, 24⟩) (meth := k2m24) (c := k2c24) (by decide +kernel) rfl rfl rfl (by decide +kernel)
set_option maxRecDepth 65536 in
theorem w_c36 : (Jvm.Cond.code ({ cls := "ReadinessPoller", name := "removeRegs", desc := "(I)V" } : Jvm.MethodName) prog_1_method_12_code (3 : Nat) (Option.none : Option Jvm.ClassFile.FieldType)).before args0 about1 = true := code_word (m := ⟨2, 11⟩) (meth := k2m11) (c := k2c11) (by decide +kernel) rfl rfl rfl (by decide +kernel)
set_option maxRecDepth 65536 in
theorem w_c37 : (Jvm.Cond.code ({ cls := "ReadinessPoller", name := "clearReg", desc := "(I)V" } : Jvm.MethodName) prog_1_method_11_code (2 : Nat) (Option.none : Option Jvm.ClassFile.FieldType)).before args0 about1 = true := code_word (m := ⟨2, 10⟩) (meth := k2m10) (c := k2c10) (by decide +kernel) rfl rfl rfl (by decide +kernel)
def codes1 : List Jvm.Cond := [Jvm.Cond.code x code maxLocals ret, Jvm.Cond.code ({ cls := "ReadinessPollerOwnLaw", name := "cell", desc := "([II)I" } : Jvm.MethodName) method_2_code (2 : Nat) (Option.some Jvm.ClassFile.FieldType.int), Jvm.Cond.code ({ cls := "ReadinessPollerOwnLaw", name := "pos", desc := "(II)I" } : Jvm.MethodName) method_3_code (3 : Nat) (Option.some Jvm.ClassFile.FieldType.int), Jvm.Cond.code ({ cls := "ReadinessPoller", name := "<init>", desc := "(III)V" } : Jvm.MethodName) prog_1_method_1_code (4 : Nat) (Option.none : Option Jvm.ClassFile.FieldType), Jvm.Cond.code ({ cls := "java/lang/Object", name := "<init>", desc := "()V" } : Jvm.MethodName) object_method_1_code (1 : Nat) (Option.none : Option Jvm.ClassFile.FieldType), Jvm.Cond.code ({ cls := "ReadinessPoller", name := "clamp", desc := "(III)I" } : Jvm.MethodName) prog_1_method_2_code (4 : Nat) (Option.some Jvm.ClassFile.FieldType.int), Jvm.Cond.code ({ cls := "ReadinessPollerOwnLaw", name := "readyAll", desc := "(LReadinessPoller;)I" } : Jvm.MethodName) method_5_code (3 : Nat) (Option.some Jvm.ClassFile.FieldType.int), Jvm.Cond.code ({ cls := "ReadinessPollerOwnLaw", name := "rd", desc := "(LReadinessPoller;I)I" } : Jvm.MethodName) method_4_code (3 : Nat) (Option.some Jvm.ClassFile.FieldType.int), Jvm.Cond.code ({ cls := "ReadinessPoller", name := "fdReadiness", desc := "(I)I" } : Jvm.MethodName) prog_1_method_27_code (2 : Nat) (Option.some Jvm.ClassFile.FieldType.int), Jvm.Cond.code ({ cls := "ReadinessPoller", name := "isOpen", desc := "(I)Z" } : Jvm.MethodName) prog_1_method_3_code (3 : Nat) (Option.some Jvm.ClassFile.FieldType.boolean), Jvm.Cond.code ({ cls := "ReadinessPoller", name := "write", desc := "(II)I" } : Jvm.MethodName) prog_1_method_16_code (7 : Nat) (Option.some Jvm.ClassFile.FieldType.int), Jvm.Cond.code ({ cls := "ReadinessPollerOwnLaw", name := "nib", desc := "(JI)I" } : Jvm.MethodName) method_6_code (3 : Nat) (Option.some Jvm.ClassFile.FieldType.int), Jvm.Cond.code ({ cls := "ReadinessPollerOwnLaw", name := "setNib", desc := "(JII)J" } : Jvm.MethodName) method_7_code (4 : Nat) (Option.some Jvm.ClassFile.FieldType.long), Jvm.Cond.code ({ cls := "ReadinessPoller", name := "regInfo", desc := "(II)I" } : Jvm.MethodName) prog_1_method_28_code (5 : Nat) (Option.some Jvm.ClassFile.FieldType.int), Jvm.Cond.code ({ cls := "ReadinessPoller", name := "lookup", desc := "(II)I" } : Jvm.MethodName) prog_1_method_14_code (4 : Nat) (Option.some Jvm.ClassFile.FieldType.int), Jvm.Cond.code ({ cls := "ReadinessPoller", name := "validQ", desc := "(I)Z" } : Jvm.MethodName) prog_1_method_6_code (2 : Nat) (Option.some Jvm.ClassFile.FieldType.boolean), Jvm.Cond.code ({ cls := "ReadinessPollerOwnLaw", name := "expect", desc := "(III)I" } : Jvm.MethodName) method_8_code (4 : Nat) (Option.some Jvm.ClassFile.FieldType.int), Jvm.Cond.code ({ cls := "ReadinessPoller", name := "peekReady", desc := "(II)I" } : Jvm.MethodName) prog_1_method_29_code (4 : Nat) (Option.some Jvm.ClassFile.FieldType.int), Jvm.Cond.code ({ cls := "ReadinessPoller", name := "readyCount", desc := "(I)I" } : Jvm.MethodName) prog_1_method_30_code (6 : Nat) (Option.some Jvm.ClassFile.FieldType.int), Jvm.Cond.code ({ cls := "ReadinessPoller", name := "slot", desc := "(II)I" } : Jvm.MethodName) prog_1_method_8_code (3 : Nat) (Option.some Jvm.ClassFile.FieldType.int), Jvm.Cond.code ({ cls := "ReadinessPoller", name := "read", desc := "(I)I" } : Jvm.MethodName) prog_1_method_17_code (6 : Nat) (Option.some Jvm.ClassFile.FieldType.int), Jvm.Cond.code ({ cls := "ReadinessPoller", name := "createPipe", desc := "()I" } : Jvm.MethodName) prog_1_method_15_code (2 : Nat) (Option.some Jvm.ClassFile.FieldType.int), Jvm.Cond.code ({ cls := "ReadinessPoller", name := "rawReady", desc := "(I)I" } : Jvm.MethodName) prog_1_method_4_code (4 : Nat) (Option.some Jvm.ClassFile.FieldType.int), Jvm.Cond.code ({ cls := "ReadinessPoller", name := "edgeUpdate", desc := "(II)V" } : Jvm.MethodName) prog_1_method_13_code (7 : Nat) (Option.none : Option Jvm.ClassFile.FieldType), Jvm.Cond.code ({ cls := "ReadinessPoller", name := "wait", desc := "(II)I" } : Jvm.MethodName) prog_1_method_22_code (9 : Nat) (Option.some Jvm.ClassFile.FieldType.int), Jvm.Cond.code ({ cls := "ReadinessPoller", name := "ctlMod", desc := "(III)I" } : Jvm.MethodName) prog_1_method_20_code (5 : Nat) (Option.some Jvm.ClassFile.FieldType.int), Jvm.Cond.code ({ cls := "ReadinessPoller", name := "validWord", desc := "(I)Z" } : Jvm.MethodName) prog_1_method_7_code (2 : Nat) (Option.some Jvm.ClassFile.FieldType.boolean), Jvm.Cond.code ({ cls := "ReadinessPoller", name := "closeFd", desc := "(I)I" } : Jvm.MethodName) prog_1_method_18_code (5 : Nat) (Option.some Jvm.ClassFile.FieldType.int), Jvm.Cond.code ({ cls := "ReadinessPoller", name := "ctlAdd", desc := "(III)I" } : Jvm.MethodName) prog_1_method_19_code (5 : Nat) (Option.some Jvm.ClassFile.FieldType.int), Jvm.Cond.code ({ cls := "ReadinessPoller", name := "ctlDel", desc := "(II)I" } : Jvm.MethodName) prog_1_method_21_code (4 : Nat) (Option.some Jvm.ClassFile.FieldType.int), Jvm.Cond.code ({ cls := "ReadinessPoller", name := "arm", desc := "(III)V" } : Jvm.MethodName) prog_1_method_10_code (4 : Nat) (Option.none : Option Jvm.ClassFile.FieldType), Jvm.Cond.code ({ cls := "ReadinessPoller", name := "watched", desc := "(I)I" } : Jvm.MethodName) prog_1_method_5_code (2 : Nat) (Option.some Jvm.ClassFile.FieldType.int), Jvm.Cond.code ({ cls := "ReadinessPoller", name := "peek", desc := "(II)I" } : Jvm.MethodName) prog_1_method_9_code (3 : Nat) (Option.some Jvm.ClassFile.FieldType.int), Jvm.Cond.code ({ cls := "ReadinessPoller", name := "consume", desc := "(I)V" } : Jvm.MethodName) prog_1_method_23_code (2 : Nat) (Option.none : Option Jvm.ClassFile.FieldType), Jvm.Cond.code ({ cls := "ReadinessPoller", name := "eventFd", desc := "(I)I" } : Jvm.MethodName) prog_1_method_24_code (2 : Nat) (Option.some Jvm.ClassFile.FieldType.int), Jvm.Cond.code ({ cls := "ReadinessPoller", name := "eventMask", desc := "(I)I" } : Jvm.MethodName) prog_1_method_25_code (2 : Nat) (Option.some Jvm.ClassFile.FieldType.int), Jvm.Cond.code ({ cls := "ReadinessPoller", name := "removeRegs", desc := "(I)V" } : Jvm.MethodName) prog_1_method_12_code (3 : Nat) (Option.none : Option Jvm.ClassFile.FieldType), Jvm.Cond.code ({ cls := "ReadinessPoller", name := "clearReg", desc := "(I)V" } : Jvm.MethodName) prog_1_method_11_code (2 : Nat) (Option.none : Option Jvm.ClassFile.FieldType)]
set_option maxRecDepth 65536 in
theorem codes_eq : words1.filter isCode = codes1 := rfl
theorem w_codes : ∀ c ∈ words1.filter isCode, c.before args0 about1 = true := by
  rw [codes_eq]
  intro c hc
  simp only [codes1, List.mem_cons, List.not_mem_nil, or_false] at hc
  rcases hc with rfl | rfl | rfl | rfl | rfl | rfl | rfl | rfl | rfl | rfl | rfl | rfl | rfl | rfl | rfl | rfl | rfl | rfl | rfl | rfl | rfl | rfl | rfl | rfl | rfl | rfl | rfl | rfl | rfl | rfl | rfl | rfl | rfl | rfl | rfl | rfl | rfl | rfl
  · exact w_c0
  · exact w_c1
  · exact w_c2
  · exact w_c3
  · exact w_c4
  · exact w_c5
  · exact w_c6
  · exact w_c7
  · exact w_c8
  · exact w_c9
  · exact w_c10
  · exact w_c11
  · exact w_c12
  · exact w_c13
  · exact w_c14
  · exact w_c15
  · exact w_c16
  · exact w_c17
  · exact w_c18
  · exact w_c19
  · exact w_c20
  · exact w_c21
  · exact w_c22
  · exact w_c23
  · exact w_c24
  · exact w_c25
  · exact w_c26
  · exact w_c27
  · exact w_c28
  · exact w_c29
  · exact w_c30
  · exact w_c31
  · exact w_c32
  · exact w_c33
  · exact w_c34
  · exact w_c35
  · exact w_c36
  · exact w_c37
set_option maxRecDepth 65536 in
theorem w_t1 : (words1.take 24).all (fun c => isCode c || c.before args0 about1) = true := by decide +kernel
set_option maxRecDepth 65536 in
theorem w_t2 : ((words1.drop 24).take 24).all (fun c => isCode c || c.before args0 about1) = true := by decide +kernel
set_option maxRecDepth 65536 in
theorem w_t3 : (((words1.drop 24).drop 24).take 24).all (fun c => isCode c || c.before args0 about1) = true := by decide +kernel
set_option maxRecDepth 65536 in
theorem w_t4 : ((((words1.drop 24).drop 24).drop 24).take 24).all (fun c => isCode c || c.before args0 about1) = true := by decide +kernel
set_option maxRecDepth 65536 in
theorem w_t5 : (((((words1.drop 24).drop 24).drop 24).drop 24).take 24).all (fun c => isCode c || c.before args0 about1) = true := by decide +kernel
set_option maxRecDepth 65536 in
theorem w_t6 : ((((((words1.drop 24).drop 24).drop 24).drop 24).drop 24).take 24).all (fun c => isCode c || c.before args0 about1) = true := by decide +kernel
set_option maxRecDepth 65536 in
theorem w_t7 : (((((((words1.drop 24).drop 24).drop 24).drop 24).drop 24).drop 24).take 24).all (fun c => isCode c || c.before args0 about1) = true := by decide +kernel
set_option maxRecDepth 65536 in
theorem w_t8 : ((((((((words1.drop 24).drop 24).drop 24).drop 24).drop 24).drop 24).drop 24).take 24).all (fun c => isCode c || c.before args0 about1) = true := by decide +kernel
set_option maxRecDepth 65536 in
theorem w_t9 : ((((((((words1.drop 24).drop 24).drop 24).drop 24).drop 24).drop 24).drop 24).drop 24).all (fun c => isCode c || c.before args0 about1) = true := by decide +kernel
theorem w_tables : (allAtoms (Jvm.Cond.code x code maxLocals ret :: tables_1)).before args0 about1 = true := by
  rw [allAtoms_all]
  show words1.all (fun c => c.before args0 about1) = true
  refine all_split ?_ w_codes
  rw [← List.take_append_drop 24 words1, List.all_append, w_t1, ← List.take_append_drop 24 (words1.drop 24), List.all_append, w_t2, ← List.take_append_drop 24 ((words1.drop 24).drop 24), List.all_append, w_t3, ← List.take_append_drop 24 (((words1.drop 24).drop 24).drop 24), List.all_append, w_t4, ← List.take_append_drop 24 ((((words1.drop 24).drop 24).drop 24).drop 24), List.all_append, w_t5, ← List.take_append_drop 24 (((((words1.drop 24).drop 24).drop 24).drop 24).drop 24), List.all_append, w_t6, ← List.take_append_drop 24 ((((((words1.drop 24).drop 24).drop 24).drop 24).drop 24).drop 24), List.all_append, w_t7, ← List.take_append_drop 24 (((((((words1.drop 24).drop 24).drop 24).drop 24).drop 24).drop 24).drop 24), List.all_append, w_t8, w_t9]
  rfl
set_option maxRecDepth 65536 in
theorem w_rest : rest_1_c.before args0 about1 = true := by decide +kernel
set_option maxRecDepth 65536 in
theorem w_case : (Jvm.Cond.and given_1 narrow_1).before args0 about1 = true := by decide +kernel
theorem w_applies : (headSpec (Jvm.Cond.code x code maxLocals ret :: tables_1) room_1).applies x e0.platform about1 = true :=
  (Spec.applies_iff w_frames).mpr ⟨w_running, w_runnable, w_alone, w_named, w_hears, w_ripe, w_room, w_tables⟩
theorem atStart : AtStart classFile x code maxLocals ret World_1 tables_1 room_1 Calls_1 rest_1 Pre_1 launch0 p0 e0 about1 theMethod args0 below0 :=
  ⟨lists_1, trivial, launch0.admits_env _ _ _, launch0.least_env, fairChoices_fair.cas, fairChoices_fair.clock, w_frames, w_args, w_heap, w_applies, trivial, w_rest, w_case⟩
end start1
theorem witness_1 : WitnessClaimed_1 := ⟨start1.p0, start1.e0, start1.about1, start1.theMethod, start1.args0, start1.below0, start1.atStart⟩
end Jvm.Pilot.@@N@@
