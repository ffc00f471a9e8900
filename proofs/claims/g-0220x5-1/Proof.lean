import JvmDerived
import JvmDerived.Pilot.@@N@@Statement
import JvmDerived.Pilot.@@N@@Code
set_option linter.unusedVariables false
set_option linter.unusedSimpArgs false
@@BLOCK:NumsL.lean.txt@@
namespace Jvm.LM
open Sem ClassFile Op Lib Jvm.Stand Jvm.Free Jvm.LawKit Jvm.RoadKit
/-! A small machine over plain data that mirrors the bytecode of one class and of a law over it. -/
abbrev Lv := List (Option Value)
abbrev St := (Nat → Nat → Int32) × (Nat → Nat → Int64)
abbrev Cd := List (Nat × Instr × Nat)
/-- name, descriptor, kind (0 int, 1 boolean, 2 long, 3+j the j-th array), final -/
abbrev Fe := String × String × Nat × Bool
/-- name, descriptor, number of arguments, return kind (0 none, 1 int, 2 boolean, 3 long), code, max_locals, room: frames, locals -/
abbrev Me := String × String × Nat × Nat × Cd × Nat × Nat × Nat
/-- class name, fields, arrays (kind, length), pool to field, pool to method, pool to constant, methods, pool index of Object's constructor -/
abbrev Cl := String × List (Nat × Fe) × List (Nat × Nat) × List (Nat × Nat) × List (Nat × Nat) × List (Nat × Value) × List (Nat × Me) × Nat
def Me.nm (m : Me) : String := m.1
def Me.ds (m : Me) : String := m.2.1
def Me.na (m : Me) : Nat := m.2.2.1
def Me.rt (m : Me) : Nat := m.2.2.2.1
def Me.cd (m : Me) : Cd := m.2.2.2.2.1
def Me.ml (m : Me) : Nat := m.2.2.2.2.2.1
def Me.rf (m : Me) : Nat := m.2.2.2.2.2.2.1
def Me.rl (m : Me) : Nat := m.2.2.2.2.2.2.2
def Cl.nm (P : Cl) : String := P.1
def Cl.fs (P : Cl) : List (Nat × Fe) := P.2.1
def Cl.al (P : Cl) : List (Nat × Nat) := P.2.2.1
def Cl.fx (P : Cl) : List (Nat × Nat) := P.2.2.2.1
def Cl.mx (P : Cl) : List (Nat × Nat) := P.2.2.2.2.1
def Cl.kx (P : Cl) : List (Nat × Value) := P.2.2.2.2.2.1
def Cl.ms (P : Cl) : List (Nat × Me) := P.2.2.2.2.2.2.1
def Cl.oi (P : Cl) : Nat := P.2.2.2.2.2.2.2
def gI (s : St) (c j : Nat) : Int32 := s.1 c j
def gL (s : St) (c j : Nat) : Int64 := s.2 c j
def sI (s : St) (c j : Nat) (v : Int32) : St := (fun a b => if a = c ∧ b = j then v else s.1 a b, s.2)
def sL (s : St) (c j : Nat) (v : Int64) : St := (s.1, fun a b => if a = c ∧ b = j then v else s.2 a b)
def s0 : St := (fun _ _ => 0, fun _ _ => 0)
def ix (i : Int32) : Nat := i.toNatClampNeg
abbrev inb (n : Nat) (i : Int32) : Prop := 0 ≤ i.toInt ∧ i.toInt < (n : Int)
def asc {α : Type} : List (Nat × α) → Nat → Option α
  | [], _ => none
  | (a, b) :: r, k => match Nat.beq a k with
    | true => some b
    | false => asc r k
def fetch : Cd → Nat → Option (Instr × Nat)
  | [], _ => none
  | (a, b) :: r, k => match Nat.beq a k with
    | true => some b
    | false => fetch r k
def ilen : Instr → Nat
  | .iload _ => 2 | .lload _ => 2 | .aload _ => 2 | .istore _ => 2 | .lstore _ => 2 | .astore _ => 2 | .bipush _ => 2 | .ldc _ => 2 | .newarray _ => 2
  | .sipush _ => 3 | .iinc _ _ => 3 | .goto _ => 3 | .ifCond _ _ => 3 | .if_icmp _ _ => 3 | .getfield _ => 3 | .putfield _ => 3
  | .invokevirtual _ => 3 | .invokespecial _ => 3 | .invokestatic _ => 3 | .new _ => 3 | .ldc2_w _ => 3
  | _ => 1
def isSw : Instr → Bool
  | .tableswitch _ _ _ _ => true
  | _ => false
def clr (ls : Lv) : Nat → Lv
  | 0 => ls
  | j + 1 => match ls[j]? with
    | some (some (.long _)) => ls.set j none
    | some (some (.double _)) => ls.set j none
    | _ => ls
/-- a store into the local variables: a long takes two -/
def stl (ls : Lv) (i : Nat) (v : Value) : Option Lv :=
  match v with
  | .long x => if i + 1 < ls.length then some (((clr ls i).set i (some (.long x))).set (i + 1) none) else none
  | w => if i < ls.length then some ((clr ls i).set i (some w)) else none
def br (cd : ClassFile.Cond) (x y : Int32) (a b : Nat) : Nat :=
  match cd with
  | .eq => if x = y then a else b
  | .ne => if x = y then b else a
  | .lt => if x < y then a else b
  | .ge => if x < y then b else a
  | .gt => if y < x then a else b
  | .le => if y < x then b else a
def jmp (pc : Nat) (o : Int) : Nat := ((pc : Int) + o).toNat
def qstep (i : Instr) (pc : Nat) (st : List Value) : Option (Nat × List Value) :=
  match i with
  | .iconst v => some (pc + 1, .int (Int32.ofInt v) :: st)
  | .bipush v => some (pc + 2, .int (Int8.ofInt v).toInt32 :: st)
  | .sipush v => some (pc + 3, .int (Int16.ofInt v).toInt32 :: st)
  | .lconst k => some (pc + 1, .long (Int64.ofNat k) :: st)
  | .iadd => match st with | .int y :: .int x :: r => some (pc + 1, .int (x + y) :: r) | _ => none
  | .isub => match st with | .int y :: .int x :: r => some (pc + 1, .int (x - y) :: r) | _ => none
  | .imul => match st with | .int y :: .int x :: r => some (pc + 1, .int (x * y) :: r) | _ => none
  | .iand => match st with | .int y :: .int x :: r => some (pc + 1, .int (x &&& y) :: r) | _ => none
  | .ior => match st with | .int y :: .int x :: r => some (pc + 1, .int (x ||| y) :: r) | _ => none
  | .ixor => match st with | .int y :: .int x :: r => some (pc + 1, .int (x ^^^ y) :: r) | _ => none
  | .ishl => match st with | .int y :: .int x :: r => some (pc + 1, .int (x <<< (y &&& 31)) :: r) | _ => none
  | .ishr => match st with | .int y :: .int x :: r => some (pc + 1, .int (x >>> (y &&& 31)) :: r) | _ => none
  | .iushr => match st with | .int y :: .int x :: r => some (pc + 1, .int (XT.ushr x y) :: r) | _ => none
  | .idiv => match st with | .int y :: .int x :: r => if y = 0 then none else some (pc + 1, .int (x / y) :: r) | _ => none
  | .irem => match st with | .int y :: .int x :: r => if y = 0 then none else some (pc + 1, .int (x % y) :: r) | _ => none
  | .ineg => match st with | .int x :: r => some (pc + 1, .int (-x) :: r) | _ => none
  | .ladd => match st with | .long y :: .long x :: r => some (pc + 1, .long (x + y) :: r) | _ => none
  | .lsub => match st with | .long y :: .long x :: r => some (pc + 1, .long (x - y) :: r) | _ => none
  | .lmul => match st with | .long y :: .long x :: r => some (pc + 1, .long (x * y) :: r) | _ => none
  | .land => match st with | .long y :: .long x :: r => some (pc + 1, .long (x &&& y) :: r) | _ => none
  | .lor => match st with | .long y :: .long x :: r => some (pc + 1, .long (x ||| y) :: r) | _ => none
  | .lxor => match st with | .long y :: .long x :: r => some (pc + 1, .long (x ^^^ y) :: r) | _ => none
  | .lshl => match st with | .int y :: .long x :: r => some (pc + 1, .long (x <<< (y.toInt64 &&& 63)) :: r) | _ => none
  | .lshr => match st with | .int y :: .long x :: r => some (pc + 1, .long (x >>> (y.toInt64 &&& 63)) :: r) | _ => none
  | .lushr => match st with | .int y :: .long x :: r => some (pc + 1, .long (XT.ushrL x y) :: r) | _ => none
  | .ldiv => match st with | .long y :: .long x :: r => if y = 0 then none else some (pc + 1, .long (x / y) :: r) | _ => none
  | .lneg => match st with | .long x :: r => some (pc + 1, .long (-x) :: r) | _ => none
  | .lcmp => match st with | .long y :: .long x :: r => some (pc + 1, .int (XT.cmpL x y) :: r) | _ => none
  | .i2l => match st with | .int x :: r => some (pc + 1, .long x.toInt64 :: r) | _ => none
  | .l2i => match st with | .long x :: r => some (pc + 1, .int x.toInt32 :: r) | _ => none
  | .dup => match st with | .int x :: r => some (pc + 1, .int x :: .int x :: r) | .ref x :: r => some (pc + 1, .ref x :: .ref x :: r) | _ => none
  | .pop => match st with | .int _ :: r => some (pc + 1, r) | .ref _ :: r => some (pc + 1, r) | _ => none
  | .goto o => if 0 ≤ (pc : Int) + o then some (jmp pc o, st) else none
  | .ifCond cd o => match st with | .int x :: r => if 0 ≤ (pc : Int) + o then some (br cd x 0 (jmp pc o) (pc + 3), r) else none | _ => none
  | .if_icmp cd o => match st with | .int y :: .int x :: r => if 0 ≤ (pc : Int) + o then some (br cd x y (jmp pc o) (pc + 3), r) else none | _ => none
  | .tableswitch d lo hi offs => match st with
    | .int x :: r => if x.toInt < lo ∨ x.toInt > hi then (if 0 ≤ (pc : Int) + d then some (jmp pc d, r) else none)
      else (match offs[(x.toInt - lo).toNat]? with | some o => if 0 ≤ (pc : Int) + o then some (jmp pc o, r) else none | none => none)
    | _ => none
  | _ => none
def pstep (i : Instr) (pc : Nat) (ls : Lv) (st : List Value) : Option (Nat × Lv × List Value) :=
  match i with
  | .iload_n k => match ls[k.val]? with | some (some (.int v)) => some (pc + 1, ls, .int v :: st) | _ => none
  | .iload k => match ls[k]? with | some (some (.int v)) => some (pc + 2, ls, .int v :: st) | _ => none
  | .lload_n k => match ls[k.val]? with | some (some (.long v)) => some (pc + 1, ls, .long v :: st) | _ => none
  | .lload k => match ls[k]? with | some (some (.long v)) => some (pc + 2, ls, .long v :: st) | _ => none
  | .aload_n k => match ls[k.val]? with | some (some (.ref v)) => some (pc + 1, ls, .ref v :: st) | _ => none
  | .aload k => match ls[k]? with | some (some (.ref v)) => some (pc + 2, ls, .ref v :: st) | _ => none
  | .istore_n k => match st with | .int v :: r => (match stl ls k.val (.int v) with | some l => some (pc + 1, l, r) | none => none) | _ => none
  | .istore k => match st with | .int v :: r => (match stl ls k (.int v) with | some l => some (pc + 2, l, r) | none => none) | _ => none
  | .lstore_n k => match st with | .long v :: r => (match stl ls k.val (.long v) with | some l => some (pc + 1, l, r) | none => none) | _ => none
  | .lstore k => match st with | .long v :: r => (match stl ls k (.long v) with | some l => some (pc + 2, l, r) | none => none) | _ => none
  | .astore_n k => match st with | .ref v :: r => (match stl ls k.val (.ref v) with | some l => some (pc + 1, l, r) | none => none) | _ => none
  | .astore k => match st with | .ref v :: r => (match stl ls k (.ref v) with | some l => some (pc + 2, l, r) | none => none) | _ => none
  | .iinc k d => match ls[k]? with | some (some (.int v)) => (match stl ls k (.int (v + Int32.ofInt d)) with | some l => some (pc + 3, l, st) | none => none) | _ => none
  | i => match qstep i pc st with | some (pc', st') => some (pc', ls, st') | none => none
/-- how the machine's references stand in the heap -/
def va (ρ : Nat → Nat) : Value → Value
  | .ref c => .ref (ρ c)
  | v => v
def WF (L : Array Slot) : Prop :=
  (∀ (k : Nat) (v : Value), L[k]? = some (Slot.val v) → v.category = 2 → L[k + 1]? = some .second) ∧
  (∀ k : Nat, L[k + 1]? = some Slot.second → ∃ v : Value, L[k]? = some (Slot.val v) ∧ v.category = 2) ∧ L[0]? ≠ some Slot.second
def LR (ρ : Nat → Nat) (ls : Lv) (L : Array Slot) : Prop :=
  L.size = ls.length ∧ (∀ (k : Nat) (v : Value), ls[k]? = some (some v) → L[k]? = some (Slot.val (va ρ v))) ∧ WF L
end Jvm.LM

namespace Jvm.LM
open Sem ClassFile Op Lib Jvm.Stand Jvm.Free Jvm.LawKit Jvm.RoadKit
/-! the local variables -/
def upd (f : Nat → Option Slot) (i : Nat) (x : Slot) : Nat → Option Slot := fun k => if k = i then some x else f k
def WFf (f : Nat → Option Slot) : Prop :=
  (∀ k v, f k = some (.val v) → v.category = 2 → f (k + 1) = some .second) ∧
  (∀ k, f (k + 1) = some .second → ∃ v, f k = some (.val v) ∧ v.category = 2) ∧ f 0 ≠ some .second
def clearF (f : Nat → Option Slot) (i : Nat) : Nat → Option Slot :=
  match f i with
  | some .second => upd (upd f (i - 1) .unset) i .unset
  | some (.val old) => if old.category = 2 then upd (upd f (i + 1) .unset) i .unset else upd f i .unset
  | _ => f
theorem clearF_cases (f : Nat → Option Slot) (i : Nat) : (f i = some .second ∧ clearF f i = upd (upd f (i - 1) .unset) i .unset) ∨ (∃ old, f i = some (.val old) ∧ old.category = 2 ∧ clearF f i = upd (upd f (i + 1) .unset) i .unset) ∨
    (∃ old, f i = some (.val old) ∧ old.category ≠ 2 ∧ clearF f i = upd f i .unset) ∨ ((f i = some .unset ∨ f i = none) ∧ clearF f i = f) := by
  cases h : f i with
  | none => exact Or.inr (Or.inr (Or.inr ⟨Or.inr rfl, by simp only [clearF, h]⟩))
  | some x =>
    cases x with
    | unset => exact Or.inr (Or.inr (Or.inr ⟨Or.inl rfl, by simp only [clearF, h]⟩))
    | second => exact Or.inl ⟨rfl, by simp only [clearF, h]⟩
    | val old =>
      by_cases hc : old.category = 2
      · exact Or.inr (Or.inl ⟨old, rfl, hc, by simp only [clearF, h]; rw [if_pos hc]⟩)
      · exact Or.inr (Or.inr (Or.inl ⟨old, rfl, hc, by simp only [clearF, h]; rw [if_neg hc]⟩))
theorem wff_clear {f : Nat → Option Slot} (h : WFf f) (i : Nat) : WFf (clearF f i) := by
  obtain ⟨h1, h2, h3⟩ := h
  unfold clearF
  split
  · rename_i e
    cases i with
    | zero => exact absurd e h3
    | succ j =>
      refine ⟨fun k v hk hc => ?_, fun k hk => ?_, ?_⟩
      · simp only [upd, Nat.add_sub_cancel] at hk ⊢
        have := h1 k v
        by_cases a : k = j + 1
        · simp [a] at hk
        · by_cases b : k = j
          · simp [b] at hk
          · have c : k + 1 ≠ j + 1 := by omega
            simp only [a, b, if_false] at hk
            by_cases d : k + 1 = j
            · have := h1 k v hk hc
              obtain ⟨w, hw, hw2⟩ := h2 j e
              rw [d, hw] at this; cases this
            · simp [c, d, b, h1 k v hk hc]
      · simp only [upd, Nat.add_sub_cancel] at hk ⊢
        by_cases a : k = j
        · simp [a] at hk
        · by_cases b : k + 1 = j
          · simp [b] at hk
          · simp only [show ¬ (k + 1 = j + 1) by omega, b, if_false] at hk
            obtain ⟨w, hw, hw2⟩ := h2 k hk
            by_cases d : k = j + 1
            · rw [d, e] at hw; cases hw
            · exact ⟨w, by simp [d, a, hw], hw2⟩
      · simp only [upd, Nat.add_sub_cancel]
        by_cases b : 0 = j
        · simp [← b]
        · simp [b, h3]
  · rename_i old e
    split
    · rename_i hc2
      have e2 := h1 i old e hc2
      refine ⟨fun k v hk hc => ?_, fun k hk => ?_, ?_⟩
      · simp only [upd] at hk ⊢
        by_cases a : k = i
        · simp [a] at hk
        · by_cases b : k = i + 1
          · simp [b] at hk
          · simp only [a, b, if_false] at hk
            have q := h1 k v hk hc
            by_cases d : k + 1 = i
            · rw [d, e] at q; cases q
            · simp [d, a, show ¬ (k + 1 = i + 1) by omega, q]
      · simp only [upd] at hk ⊢
        by_cases a : k + 1 = i
        · simp [a] at hk
        · by_cases b : k = i
          · simp [b] at hk
          · simp only [a, show ¬ (k + 1 = i + 1) by omega, if_false] at hk
            obtain ⟨w, hw, hw2⟩ := h2 k hk
            by_cases d : k = i + 1
            · rw [d, e2] at hw; cases hw
            · exact ⟨w, by simp [d, b, hw], hw2⟩
      · simp only [upd]
        by_cases b : 0 = i
        · simp [← b]
        · simp [b, h3]
    · rename_i hc2
      refine ⟨fun k v hk hc => ?_, fun k hk => ?_, ?_⟩
      · simp only [upd] at hk ⊢
        by_cases a : k = i
        · simp [a] at hk
        · simp only [a, if_false] at hk
          have q := h1 k v hk hc
          by_cases d : k + 1 = i
          · rw [d, e] at q; cases q
          · simp [d, q]
      · simp only [upd] at hk ⊢
        by_cases a : k + 1 = i
        · simp [a] at hk
        · simp only [a, if_false] at hk
          obtain ⟨w, hw, hw2⟩ := h2 k hk
          by_cases d : k = i
          · rw [d, e] at hw; cases hw; exact absurd hw2 hc2
          · exact ⟨w, by simp [d, hw], hw2⟩
      · simp only [upd]
        by_cases b : 0 = i
        · simp [← b]
        · simp [b, h3]
  · exact ⟨h1, h2, h3⟩
theorem wff_one {f : Nat → Option Slot} (h : WFf f) {i : Nat} (e : f i = some .unset) {v : Value} (hv : v.category ≠ 2) : WFf (upd f i (.val v)) := by
  obtain ⟨h1, h2, h3⟩ := h
  refine ⟨fun k w hk hc => ?_, fun k hk => ?_, ?_⟩
  · simp only [upd] at hk ⊢
    by_cases a : k = i
    · simp only [a, if_true, Option.some.injEq, Slot.val.injEq] at hk; subst hk; exact absurd hc hv
    · simp only [a, if_false] at hk
      have q := h1 k w hk hc
      by_cases d : k + 1 = i
      · rw [d, e] at q; cases q
      · simp [d, q]
  · simp only [upd] at hk ⊢
    by_cases a : k + 1 = i
    · simp [a] at hk
    · simp only [a, if_false] at hk
      obtain ⟨w, hw, hw2⟩ := h2 k hk
      by_cases d : k = i
      · rw [d, e] at hw; cases hw
      · exact ⟨w, by simp [d, hw], hw2⟩
  · simp only [upd]
    by_cases b : 0 = i
    · simp [← b]
    · simp [b, h3]
theorem wff_two {f : Nat → Option Slot} (h : WFf f) {i : Nat} (e : f i = some .unset) (e' : f (i + 1) = some .unset) {v : Value} (hv : v.category = 2) : WFf (upd (upd f i (.val v)) (i + 1) .second) := by
  obtain ⟨h1, h2, h3⟩ := h
  refine ⟨fun k w hk hc => ?_, fun k hk => ?_, ?_⟩
  · simp only [upd] at hk ⊢
    by_cases a : k = i + 1
    · simp [a] at hk
    · by_cases b : k = i
      · simp [b]
      · simp only [a, b, if_false] at hk
        have q := h1 k w hk hc
        by_cases d : k + 1 = i
        · rw [d, e] at q; cases q
        · simp [d, show ¬ (k + 1 = i + 1) by omega, q]
  · simp only [upd] at hk ⊢
    by_cases a : k = i
    · exact ⟨v, by simp [a], hv⟩
    · by_cases b : k + 1 = i
      · simp [b] at hk
      · simp only [show ¬ (k + 1 = i + 1) by omega, b, if_false] at hk
        obtain ⟨w, hw, hw2⟩ := h2 k hk
        by_cases d : k = i + 1
        · rw [d, e'] at hw; cases hw
        · exact ⟨w, by simp [d, a, hw], hw2⟩
  · simp only [upd]
    by_cases b : 0 = i
    · simp [← b]
    · simp [b, h3]
theorem gset (L : Array Slot) {i : Nat} (hi : i < L.size) (x : Slot) : (fun k => (L.setIfInBounds i x)[k]?) = upd (fun k => L[k]?) i x := by
  funext k
  simp only [upd, Array.getElem?_setIfInBounds]
  by_cases a : i = k
  · subst a; simp [hi]
  · simp [a, show ¬ k = i from fun h => a h.symm]
theorem sl_eq (L : Array Slot) (i : Nat) (v : Value) : storeLocals L i v = (L[i]?).bind (fun x => match x with
    | .second => (setAt L (i - 1) .unset).bind (fun l => storeSelf l i v)
    | .val old => if old.category = 2 then (setAt L (i + 1) .unset).bind (fun l => storeSelf l i v) else storeSelf L i v
    | .unset => storeSelf L i v) := rfl
theorem ss_eq (L : Array Slot) (i : Nat) (v : Value) : storeSelf L i v = (setAt L i (.val v)).bind (fun l => if v.category = 2 then (l[i + 1]?).bind (fun x => match x with
    | .val old => if old.category = 2 then (setAt l (i + 2) .unset).bind (fun l' => setAt l' (i + 1) .second) else setAt l (i + 1) .second
    | _ => setAt l (i + 1) .second) else some l) := rfl
theorem sa_eq {L : Array Slot} {i : Nat} (hi : i < L.size) (x : Slot) : setAt L i x = some (L.setIfInBounds i x) := if_pos hi
theorem upd_upd (f : Nat → Option Slot) (i : Nat) (x y : Slot) : upd (upd f i x) i y = upd f i y := by
  funext k; simp only [upd]; split <;> rfl
/-- what a store clears first -/
theorem clear_ok {L : Array Slot} (hW : WF L) {i : Nat} (hi : i < L.size) (v : Value) : ∃ L1, storeLocals L i v = storeSelf L1 i v ∧ L1.size = L.size ∧ upd (fun k => L1[k]?) i .unset = upd (clearF (fun k => L[k]?) i) i .unset := by
  have hh : WFf (fun k => L[k]?) := hW
  obtain ⟨sl, hsl⟩ : ∃ sl, L[i]? = some sl := ⟨L[i], Array.getElem?_eq_getElem hi⟩
  rw [sl_eq, hsl, Option.bind_some]
  cases sl with
  | unset => exact ⟨L, rfl, rfl, by simp only [clearF, hsl]⟩
  | second =>
    refine ⟨L.setIfInBounds (i - 1) .unset, ?_, by simp, ?_⟩
    · show (setAt L (i - 1) .unset).bind _ = _
      rw [sa_eq (by omega)]; rfl
    · rw [gset _ (by omega)]; simp only [clearF, hsl, upd_upd]
  | val old =>
    by_cases hc : old.category = 2
    · have h2 := hh.1 i old hsl hc
      have hlt : i + 1 < L.size := (Array.getElem?_eq_some_iff.mp h2).1
      refine ⟨L.setIfInBounds (i + 1) .unset, ?_, by simp, ?_⟩
      · show (if old.category = 2 then _ else _) = _
        rw [if_pos hc, sa_eq hlt]; rfl
      · rw [gset _ hlt]; simp only [clearF, hsl, hc, if_true, upd_upd]
    · refine ⟨L, ?_, rfl, ?_⟩
      · show (if old.category = 2 then _ else _) = _
        rw [if_neg hc]
      · simp only [clearF, hsl, hc, if_false, upd_upd]
theorem clearF_at {f : Nat → Option Slot} {i : Nat} (hi : f i ≠ none) : clearF f i i = some .unset := by
  rcases clearF_cases f i with ⟨h1, h2⟩ | ⟨old, h1, h3, h2⟩ | ⟨old, h1, h3, h2⟩ | ⟨h1 | h1, h2⟩
  · rw [h2]; simp [upd]
  · rw [h2]; simp [upd]
  · rw [h2]; simp [upd]
  · rw [h2]; exact h1
  · exact absurd h1 hi
theorem clearF_self {f : Nat → Option Slot} {i : Nat} (hi : f i ≠ none) : upd (clearF f i) i .unset = clearF f i := by
  funext k; simp only [upd]; split
  · rename_i e; rw [e]; exact (clearF_at hi).symm
  · rfl
/-- the other variables: kept, or they held (a part of) a long -/
theorem clearF_keep {f : Nat → Option Slot} (h : WFf f) {i k : Nat} {w : Value} (hk : k ≠ i) (e : f k = some (.val w)) (hw : k + 1 = i → w.category ≠ 2) : clearF f i k = some (.val w) := by
  rcases clearF_cases f i with ⟨e2, h2⟩ | ⟨old, e2, hc, h2⟩ | ⟨old, e2, hc, h2⟩ | ⟨-, h2⟩
  · rw [h2]
    cases i with
    | zero => exact absurd e2 h.2.2
    | succ j =>
      simp only [upd, Nat.add_sub_cancel, hk, if_false]
      split
      · rename_i hj; subst hj
        obtain ⟨v, hv, hv2⟩ := h.2.1 k e2
        rw [e] at hv; cases hv; exact absurd hv2 (hw rfl)
      · exact e
  · rw [h2]
    have q := h.1 i old e2 hc
    simp only [upd, hk, if_false]
    split
    · rename_i hj; rw [hj, q] at e; cases e
    · exact e
  · rw [h2]; simp [upd, hk, e]
  · rw [h2]; exact e
theorem store_one {L : Array Slot} (hW : WF L) {i : Nat} (hi : i < L.size) {v : Value} (hv : v.category ≠ 2) :
    ∃ L', storeLocals L i v = some L' ∧ L'.size = L.size ∧ WF L' ∧ (fun k => L'[k]?) = upd (clearF (fun k => L[k]?) i) i (.val v) := by
  obtain ⟨L1, h1, h2, h3⟩ := clear_ok hW hi v
  have hne : (fun k => L[k]?) i ≠ none := by simp; omega
  have hi1 : i < L1.size := by omega
  refine ⟨L1.setIfInBounds i (.val v), ?_, by simp [h2], ?_, ?_⟩
  · rw [h1, ss_eq, sa_eq hi1, Option.bind_some, if_neg hv]
  · have q : (fun k => (L1.setIfInBounds i (.val v))[k]?) = upd (clearF (fun k => L[k]?) i) i (.val v) := by
      rw [gset _ hi1, ← upd_upd _ i .unset, h3, upd_upd]
    have w : WFf (fun k => (L1.setIfInBounds i (.val v))[k]?) := by
      rw [q]; exact wff_one (wff_clear hW i) (clearF_at hne) hv
    exact w
  · rw [gset _ hi1, ← upd_upd _ i .unset, h3, upd_upd]
theorem store_two {L : Array Slot} (hW : WF L) {i : Nat} (hi : i + 1 < L.size) {v : Value} (hv : v.category = 2) :
    ∃ L', storeLocals L i v = some L' ∧ L'.size = L.size ∧ WF L' ∧ (fun k => L'[k]?) = upd (upd (clearF (clearF (fun k => L[k]?) i) (i + 1)) i (.val v)) (i + 1) .second := by
  obtain ⟨L1, h1, h2, h3⟩ := clear_ok hW (show i < L.size by omega) v
  have hne : (fun k => L[k]?) i ≠ none := by simp; omega
  have hi1 : i < L1.size := by omega
  have hi2 : i + 1 < L1.size := by omega
  rw [clearF_self hne] at h3
  have hWc := wff_clear (f := fun k => L[k]?) hW i
  generalize hF : clearF (fun k => L[k]?) i = F at *
  have hFi : F i = some .unset := by rw [← hF]; exact clearF_at hne
  have g1 : (fun k => (L1.setIfInBounds i (.val v))[k]?) = upd F i (.val v) := by rw [gset _ hi1, ← upd_upd _ i .unset, h3]
  have g2 : (L1.setIfInBounds i (.val v))[i + 1]? = F (i + 1) := by
    have := congrFun g1 (i + 1); simpa [upd] using this
  have hFi1 : F (i + 1) ≠ none := by
    have : (L1.setIfInBounds i (.val v))[i + 1]? ≠ none := by simp; omega
    rw [g2] at this; exact this
  have hns : F (i + 1) ≠ some .second := fun q => by
    obtain ⟨w, hw, -⟩ := hWc.2.1 i q
    rw [hFi] at hw; cases hw
  have key : ∀ G : Nat → Option Slot, WFf G → G i = some .unset → G (i + 1) = some .unset → G = clearF F (i + 1) → WFf (upd (upd (clearF F (i + 1)) i (.val v)) (i + 1) .second) := fun G hG a b e => by rw [← e]; exact wff_two hG a b hv
  have hcl := wff_clear hWc (i + 1)
  have hcli : clearF F (i + 1) i = some .unset := by
    rcases clearF_cases F (i + 1) with ⟨q, h2⟩ | ⟨old, q, hc, h2⟩ | ⟨old, q, hc, h2⟩ | ⟨-, h2⟩
    · exact absurd q hns
    · rw [h2]; simp [upd, hFi]
    · rw [h2]; simp [upd, hFi]
    · rw [h2]; exact hFi
  have hWF := wff_two hcl hcli (clearF_at hFi1) hv
  rw [h1, ss_eq, sa_eq hi1, Option.bind_some, if_pos hv, g2]
  cases hx : F (i + 1) with
  | none => exact absurd hx hFi1
  | some sl =>
    cases sl with
    | second => exact absurd hx hns
    | unset =>
      have e1 : clearF F (i + 1) = F := by simp only [clearF, hx]
      have e3 : (fun k => ((L1.setIfInBounds i (.val v)).setIfInBounds (i + 1) .second)[k]?) = upd (upd (clearF F (i + 1)) i (.val v)) (i + 1) .second := by
        rw [gset _ (by simpa using hi2), g1, e1]
      refine ⟨(L1.setIfInBounds i (.val v)).setIfInBounds (i + 1) .second, ?_, by simp [h2], ?_, e3⟩
      · show setAt _ (i + 1) .second = _
        rw [sa_eq (by simpa using hi2)]
      · have w : WFf (fun k => ((L1.setIfInBounds i (.val v)).setIfInBounds (i + 1) .second)[k]?) := by rw [e3]; exact hWF
        exact w
    | val old =>
      by_cases hc : old.category = 2
      · have q := hWc.1 _ _ hx hc
        have hi3 : i + 2 < L1.size := by
          have q2 : (L1.setIfInBounds i (.val v))[i + 2]? = some .second := by
            have := congrFun g1 (i + 2); simpa [upd, q] using this
          have := (Array.getElem?_eq_some_iff.mp q2).1
          simpa using this
        have e1 : clearF F (i + 1) = upd (upd F (i + 2) .unset) (i + 1) .unset := by simp only [clearF, hx, hc, if_true]
        have e3 : (fun k => (((L1.setIfInBounds i (.val v)).setIfInBounds (i + 2) .unset).setIfInBounds (i + 1) .second)[k]?) = upd (upd (clearF F (i + 1)) i (.val v)) (i + 1) .second := by
          rw [gset _ (by simpa using hi2), gset _ (by simpa using hi3), g1, e1]
          funext k; simp only [upd]
          by_cases a : k = i + 1
          · simp [a]
          · by_cases b : k = i
            · simp [b]
            · simp [a, b]
        refine ⟨((L1.setIfInBounds i (.val v)).setIfInBounds (i + 2) .unset).setIfInBounds (i + 1) .second, ?_, by simp [h2], ?_, e3⟩
        · show (if old.category = 2 then _ else _) = _
          rw [if_pos hc, sa_eq (by simpa using hi3), Option.bind_some, sa_eq (by simpa using hi2)]
        · have w : WFf (fun k => (((L1.setIfInBounds i (.val v)).setIfInBounds (i + 2) .unset).setIfInBounds (i + 1) .second)[k]?) := by rw [e3]; exact hWF
          exact w
      · have e1 : clearF F (i + 1) = upd F (i + 1) .unset := by simp only [clearF, hx, hc, if_false]
        have e3 : (fun k => ((L1.setIfInBounds i (.val v)).setIfInBounds (i + 1) .second)[k]?) = upd (upd (clearF F (i + 1)) i (.val v)) (i + 1) .second := by
          rw [gset _ (by simpa using hi2), g1, e1]
          funext k; simp only [upd]
          by_cases a : k = i + 1
          · simp [a]
          · by_cases b : k = i
            · simp [b]
            · simp [a, b]
        refine ⟨(L1.setIfInBounds i (.val v)).setIfInBounds (i + 1) .second, ?_, by simp [h2], ?_, e3⟩
        · show (if old.category = 2 then _ else _) = _
          rw [if_neg hc, sa_eq (by simpa using hi2)]
        · have w : WFf (fun k => ((L1.setIfInBounds i (.val v)).setIfInBounds (i + 1) .second)[k]?) := by rw [e3]; exact hWF
          exact w
theorem cat_va (ρ : Nat → Nat) (v : Value) : (va ρ v).category = v.category := by cases v <;> rfl
theorem clr_len (ls : Lv) (i : Nat) : (clr ls i).length = ls.length := by
  cases i with
  | zero => rfl
  | succ j => simp only [clr]; split <;> simp
theorem clr_get {ls : Lv} {i k : Nat} {v : Value} (h : (clr ls i)[k]? = some (some v)) : ls[k]? = some (some v) ∧ (k + 1 = i → v.category ≠ 2) := by
  cases i with
  | zero => exact ⟨h, fun q => by omega⟩
  | succ j =>
    simp only [clr] at h
    split at h
    · rename_i x e
      rw [List.getElem?_set] at h
      split at h
      · rename_i hj; subst hj; split at h <;> simp at h
      · rename_i hj; exact ⟨h, fun q => by omega⟩
    · rename_i x e
      rw [List.getElem?_set] at h
      split at h
      · rename_i hj; subst hj; split at h <;> simp at h
      · rename_i hj; exact ⟨h, fun q => by omega⟩
    · rename_i e1 e2
      refine ⟨h, fun q hc => ?_⟩
      have hk : k = j := by omega
      subst hk
      cases v <;> first | exact e1 _ h | exact e2 _ h | (exact Nat.noConfusion (Nat.succ.inj hc))
theorem store_ok {ρ : Nat → Nat} {ls ls' : Lv} {L : Array Slot} {i : Nat} {v : Value} (hL : LR ρ ls L) (hd : ∀ x, v ≠ .double x) (h : stl ls i v = some ls') : ∃ L', storeLocals L i (va ρ v) = some L' ∧ LR ρ ls' L' ∧ L'.size = L.size := by
  obtain ⟨hz, hr, hW⟩ := hL
  have hWf : WFf (fun k => L[k]?) := hW
  by_cases hc : v.category = 2
  · obtain ⟨x, rfl⟩ : ∃ x, v = .long x := by cases v <;> simp [Value.category] at hc <;> first | exact ⟨_, rfl⟩ | exact absurd rfl (hd _)
    simp only [stl] at h
    split at h
    · rename_i hi
      cases h
      obtain ⟨L', a1, a2, a3, a4⟩ := store_two hW (show i + 1 < L.size by omega) (v := va ρ (.long x)) rfl
      refine ⟨L', a1, ⟨by simp [a2, hz, clr_len], fun k w hk => ?_, a3⟩, a2⟩
      have q : L'[k]? = _ := congrFun a4 k
      rw [q]
      rw [List.getElem?_set] at hk
      split at hk
      · simp at hk
      · rename_i hk1
        rw [List.getElem?_set] at hk
        split at hk
        · rename_i hk2; subst hk2
          simp only [clr_len] at hk
          split at hk
          · cases hk; simp [upd]
          · simp at hk
        · rename_i hk2
          obtain ⟨b1, b2⟩ := clr_get hk
          have b3 := hr _ _ b1
          have b4 : clearF (fun k => L[k]?) i k = some (.val (va ρ w)) := clearF_keep hWf (fun q => hk2 q.symm) b3 (fun q => by rw [cat_va]; exact b2 q)
          have b5 := clearF_keep (wff_clear hWf i) (i := i + 1) (fun q => hk1 q.symm) b4 (fun q => absurd (Nat.succ.inj q) fun z => hk2 z.symm)
          simp only [upd, show ¬ k = i + 1 from fun q => hk1 q.symm, show ¬ k = i from fun q => hk2 q.symm, if_false]
          exact b5
    · cases h
  · have hs : stl ls i v = if i < ls.length then some ((clr ls i).set i (some v)) else none := by cases v <;> first | rfl | exact absurd rfl hc
    rw [hs] at h
    split at h
    · rename_i hi
      cases h
      obtain ⟨L', a1, a2, a3, a4⟩ := store_one hW (show i < L.size by omega) (v := va ρ v) (by rw [cat_va]; exact hc)
      refine ⟨L', a1, ⟨by simp [a2, hz, clr_len], fun k w hk => ?_, a3⟩, a2⟩
      have q : L'[k]? = _ := congrFun a4 k
      rw [q]
      rw [List.getElem?_set] at hk
      split at hk
      · rename_i hk2; subst hk2
        simp only [clr_len] at hk
        split at hk
        · cases hk; simp [upd]
        · omega
      · rename_i hk2
        obtain ⟨b1, b2⟩ := clr_get hk
        have b3 := hr _ _ b1
        have b4 : clearF (fun k => L[k]?) i k = some (.val (va ρ w)) := clearF_keep hWf (fun q => hk2 q.symm) b3 (fun q => by rw [cat_va]; exact b2 q)
        simp only [upd, show ¬ k = i from fun q => hk2 q.symm, if_false]
        exact b4
    · cases h
end Jvm.LM

namespace Jvm.LM
open Sem ClassFile Op Lib Jvm.Stand Jvm.Free Jvm.LawKit Jvm.RoadKit
section Pure
variable {p : Program} {l : Launch} {e : Env} {R : Room} {s : State} {m : MethodId} {args : Array Value} {below : List Frame} {meth : Method} {c : Code} {T : State} {locs : List Loc} {cells slots : Nat}
theorem br_eq (cd : ClassFile.Cond) (x y : Int32) (a b : Nat) : br cd x y a b = if if_icmp.holds cd x y = true then a else b := by
  cases cd <;> simp only [br]
  · by_cases h : x = y <;> simp [h, XT.ii_eq_t, XT.ii_eq_f]
  · by_cases h : x = y
    · rw [if_pos h, XT.ii_ne_f h]; rfl
    · rw [if_neg h, XT.ii_ne_t h]; rfl
  · by_cases h : x < y
    · rw [if_pos h, XT.ii_lt_t h]; rfl
    · rw [if_neg h, XT.ii_lt_f h]; rfl
  · by_cases h : x < y
    · rw [if_pos h, XT.ii_ge_f h]; rfl
    · rw [if_neg h, XT.ii_ge_t h]; rfl
  · by_cases h : y < x
    · rw [if_pos h, XT.ii_gt_t h]; rfl
    · rw [if_neg h, XT.ii_gt_f h]; rfl
  · by_cases h : y < x
    · rw [if_pos h, XT.ii_le_f h]; rfl
    · rw [if_neg h, XT.ii_le_t h]; rfl
theorem qstep_sound (X : Stand p l e R s m args below meth c T locs cells slots) (hx : p.tables.exec = Jvm.exec) {ρ : Nat → Nat} {i : Instr} {n pc pc' : Nat} {st st' : List Value}
    (h : qstep i pc st = some (pc', st')) (hd : decode c.code pc = .ok (i, n)) (hn : isSw i = true ∨ n = ilen i) {L : Array Slot} :
    ∀ target, Steps p.tables e below (T.setTop (mkF m pc' L (st'.map (va ρ)))) target → Steps p.tables e below (T.setTop (mkF m pc L (st.map (va ρ)))) target := by
  by_cases hsw : isSw i = true
  · cases i <;> first | exact absurd hsw Bool.false_ne_true | skip
    rename_i d lo hi offs
    simp only [qstep] at h
    split at h
    · rename_i x r
      split at h
      · rename_i e1
        split at h
        · rename_i e2; cases h; exact fun t q => X.tableswitchOut hx (g := mkF m pc L (.int x :: List.map (va ρ) _)) rfl rfl hd e1 e2 t q
        · cases h
      · rename_i e1
        split at h
        · rename_i o e2
          split at h
          · rename_i e3; cases h; exact fun t q => X.tableswitchIn hx (g := mkF m pc L (.int x :: List.map (va ρ) _)) rfl rfl hd e1 e2 e3 t q
          · cases h
        · cases h
    · cases h
  obtain rfl := hn.resolve_left hsw
  unfold qstep at h
  split at h
  -- constants
  · cases h; exact fun t q => XS.iconst X.here hx rfl hd q
  · cases h; exact fun t q => XS.bipush X.here hx rfl hd q
  · cases h; exact fun t q => XS.sipush X.here hx rfl hd q
  · cases h; exact fun t q => XT.lconst X.here hx rfl hd q
  -- ints
  · split at h
    · cases h; exact fun t q => XS.iadd X.here hx rfl hd rfl q
    · cases h
  · split at h
    · cases h; exact fun t q => XS.isub X.here hx rfl hd rfl q
    · cases h
  · split at h
    · cases h; exact fun t q => XS.imul X.here hx rfl hd rfl q
    · cases h
  · split at h
    · cases h; exact fun t q => XS.iand X.here hx rfl hd rfl q
    · cases h
  · split at h
    · cases h; exact fun t q => XT.ior X.here hx rfl hd rfl q
    · cases h
  · split at h
    · cases h; exact fun t q => XT.ixor X.here hx rfl hd rfl q
    · cases h
  · split at h
    · cases h; exact fun t q => XT.ishl X.here hx rfl hd rfl q
    · cases h
  · split at h
    · cases h; exact fun t q => XT.ishr X.here hx rfl hd rfl q
    · cases h
  · split at h
    · cases h; exact fun t q => XT.iushr X.here hx rfl hd rfl q
    · cases h
  · split at h
    · split at h
      · cases h
      · rename_i e1; cases h; exact fun t q => XS.idiv X.here hx rfl hd rfl e1 q
    · cases h
  · split at h
    · split at h
      · cases h
      · rename_i e1; cases h; exact fun t q => iremM X hx rfl hd rfl e1 q
    · cases h
  · split at h
    · cases h; exact fun t q => XS.ineg X.here hx rfl hd rfl q
    · cases h
  -- longs
  · split at h
    · cases h; exact fun t q => XT.ladd X.here hx rfl hd rfl q
    · cases h
  · split at h
    · cases h; exact fun t q => XT.lsub X.here hx rfl hd rfl q
    · cases h
  · split at h
    · cases h; exact fun t q => XT.lmul X.here hx rfl hd rfl q
    · cases h
  · split at h
    · cases h; exact fun t q => XT.land X.here hx rfl hd rfl q
    · cases h
  · split at h
    · cases h; exact fun t q => XT.lor X.here hx rfl hd rfl q
    · cases h
  · split at h
    · cases h; exact fun t q => XT.lxor X.here hx rfl hd rfl q
    · cases h
  · split at h
    · cases h; exact fun t q => XT.lshl X.here hx rfl hd rfl q
    · cases h
  · split at h
    · cases h; exact fun t q => XT.lshr X.here hx rfl hd rfl q
    · cases h
  · split at h
    · cases h; exact fun t q => XT.lushr X.here hx rfl hd rfl q
    · cases h
  · split at h
    · split at h
      · cases h
      · rename_i e1; cases h; exact fun t q => XT.ldiv X.here hx rfl hd rfl e1 q
    · cases h
  · split at h
    · cases h; exact fun t q => XT.lneg X.here hx rfl hd rfl q
    · cases h
  · split at h
    · cases h; exact fun t q => XT.lcmp X.here hx rfl hd rfl q
    · cases h
  · split at h
    · cases h; exact fun t q => XT.i2l X.here hx rfl hd rfl q
    · cases h
  · split at h
    · cases h; exact fun t q => XT.l2i X.here hx rfl hd rfl q
    · cases h
  -- dup, pop
  · split at h
    · cases h; exact fun t q => XS.dup X.here hx rfl hd rfl rfl q
    · cases h; exact fun t q => XS.dup X.here hx rfl hd rfl rfl q
    · cases h
  · split at h
    · cases h; exact fun t q => XT.pop X.here hx rfl hd rfl rfl q
    · cases h; exact fun t q => XT.pop X.here hx rfl hd rfl rfl q
    · cases h
  -- jumps
  · split at h
    · rename_i e1; cases h; exact fun t q => XS.goto X.here hx rfl rfl hd e1 rfl q
    · cases h
  · split at h
    · split at h
      · rename_i e1; cases h
        intro t q
        rw [br_eq] at q
        split at q
        · rename_i e2; exact XS.ifYes X.here hx rfl rfl hd rfl (by rw [if0]; exact e2) e1 rfl q
        · rename_i e2; exact XS.ifNo X.here hx rfl hd rfl (by rw [if0]; simpa using e2) q
      · cases h
    · cases h
  · split at h
    · split at h
      · rename_i e1; cases h
        intro t q
        rw [br_eq] at q
        split at q
        · rename_i e2; exact XS.icmpYes X.here hx rfl rfl hd rfl e2 e1 rfl q
        · rename_i e2; exact XS.icmpNo X.here hx rfl hd rfl (by simpa using e2) q
      · cases h
    · cases h
  · exact absurd rfl hsw
  · cases h
theorem pstep_sound (X : Stand p l e R s m args below meth c T locs cells slots) (hx : p.tables.exec = Jvm.exec) {ρ : Nat → Nat} {i : Instr} {n pc pc' : Nat} {ls ls' : Lv} {st st' : List Value}
    (h : pstep i pc ls st = some (pc', ls', st')) (hd : decode c.code pc = .ok (i, n)) (hn : isSw i = true ∨ n = ilen i) {L : Array Slot} (hL : LR ρ ls L) :
    ∃ L', LR ρ ls' L' ∧ L'.size = L.size ∧ ∀ target, Steps p.tables e below (T.setTop (mkF m pc' L' (st'.map (va ρ)))) target → Steps p.tables e below (T.setTop (mkF m pc L (st.map (va ρ)))) target := by
  by_cases hsw : isSw i = true
  · cases i <;> first | exact absurd hsw Bool.false_ne_true | skip
    simp only [pstep] at h
    split at h
    · rename_i e1; cases h; exact ⟨L, hL, rfl, qstep_sound X hx e1 hd hn⟩
    · cases h
  obtain rfl := hn.resolve_left hsw
  unfold pstep at h
  split at h
  -- loads
  · split at h
    · rename_i e1; cases h; exact ⟨L, hL, rfl, fun t q => XS.iloadN X.here hx rfl hd (hL.2.1 _ _ e1) q⟩
    · cases h
  · split at h
    · rename_i e1; cases h; exact ⟨L, hL, rfl, fun t q => XS.iload X.here hx rfl hd (hL.2.1 _ _ e1) q⟩
    · cases h
  · split at h
    · rename_i e1; cases h; exact ⟨L, hL, rfl, fun t q => XT.lloadN X.here hx rfl hd (hL.2.1 _ _ e1) q⟩
    · cases h
  · split at h
    · rename_i e1; cases h; exact ⟨L, hL, rfl, fun t q => XT.lload X.here hx rfl hd (hL.2.1 _ _ e1) q⟩
    · cases h
  · split at h
    · rename_i e1; cases h; exact ⟨L, hL, rfl, fun t q => XS.aloadN X.here hx rfl hd (hL.2.1 _ _ e1) rfl q⟩
    · cases h
  · split at h
    · rename_i e1; cases h; exact ⟨L, hL, rfl, fun t q => XS.aload X.here hx rfl hd (hL.2.1 _ _ e1) rfl q⟩
    · cases h
  -- stores
  · split at h
    · split at h
      · rename_i e1; cases h
        obtain ⟨L', a1, a2, a3⟩ := store_ok hL (fun x => by simp) e1
        exact ⟨L', a2, a3, fun t q => XS.istoreN X.here hx rfl hd rfl a1 q⟩
      · cases h
    · cases h
  · split at h
    · split at h
      · rename_i e1; cases h
        obtain ⟨L', a1, a2, a3⟩ := store_ok hL (fun x => by simp) e1
        exact ⟨L', a2, a3, fun t q => XS.istore X.here hx rfl hd rfl a1 q⟩
      · cases h
    · cases h
  · split at h
    · split at h
      · rename_i e1; cases h
        obtain ⟨L', a1, a2, a3⟩ := store_ok hL (fun x => by simp) e1
        exact ⟨L', a2, a3, fun t q => XT.lstoreN X.here hx rfl hd rfl a1 q⟩
      · cases h
    · cases h
  · split at h
    · split at h
      · rename_i e1; cases h
        obtain ⟨L', a1, a2, a3⟩ := store_ok hL (fun x => by simp) e1
        exact ⟨L', a2, a3, fun t q => XT.lstore X.here hx rfl hd rfl a1 q⟩
      · cases h
    · cases h
  · split at h
    · split at h
      · rename_i e1; cases h
        obtain ⟨L', a1, a2, a3⟩ := store_ok hL (fun x => by simp) e1
        exact ⟨L', a2, a3, fun t q => XS.astoreN X.here hx rfl hd rfl rfl a1 q⟩
      · cases h
    · cases h
  · split at h
    · split at h
      · rename_i e1; cases h
        obtain ⟨L', a1, a2, a3⟩ := store_ok hL (fun x => by simp) e1
        exact ⟨L', a2, a3, fun t q => XS.astore X.here hx rfl hd rfl rfl a1 q⟩
      · cases h
    · cases h
  · split at h
    · rename_i e0
      split at h
      · rename_i e1; cases h
        obtain ⟨L', a1, a2, a3⟩ := store_ok hL (fun x => by simp) e1
        exact ⟨L', a2, a3, fun t q => XS.iinc X.here hx rfl hd (hL.2.1 _ _ e0) a1 q⟩
      · cases h
    · cases h
  · rename_i hq
    split at h
    · rename_i e1; cases h; exact ⟨L, hL, rfl, qstep_sound X hx e1 hd hn⟩
    · cases h
end Pure
/-! the class's own machine -/
def nd : List Value → Bool
  | [] => true
  | .double _ :: _ => false
  | _ :: r => nd r
theorem nd_spec {as : List Value} (h : nd as = true) : ∀ v ∈ as, ∀ x, v ≠ .double x := by
  induction as with
  | nil => intro v hv; cases hv
  | cons w r ih =>
    intro v hv x e
    rcases List.mem_cons.mp hv with q | q
    · subst q; subst e; cases h
    · refine ih ?_ v q x e
      cases w <;> first | exact h | cases h
def layA : List Value → Lv
  | [] => []
  | .long x :: r => some (.long x) :: none :: layA r
  | v :: r => some v :: layA r
def lay (as : List Value) (n : Nat) : Lv := layA as ++ List.replicate (n - (layA as).length) none
def cats (st : List Value) : Nat := (st.map fun v => v.category).sum
def tyOf : Nat → FieldType
  | 0 => .int
  | 1 => .boolean
  | _ => .long
def atOf : Nat → ArrayType
  | 0 => .int
  | 1 => .boolean
  | _ => .long
def retOf : Nat → Option FieldType
  | 0 => none
  | 1 => some .int
  | 2 => some .boolean
  | _ => some .long
def zs (al : List (Nat × Nat)) (c : Nat) : Nat := ((al.take c).map (·.2)).sum
abbrev Rs := Option (Option Value × St)
def cret (me : Me) (st : List Value) (i : Instr) : Option (Option Value) :=
  match i with
  | .ireturn => match st with
    | [.int x] => if me.rt = 1 then some (some (.int x)) else if me.rt = 2 then some (some (.int (x &&& 1))) else none
    | _ => none
  | .lreturn => match st with
    | [.long x] => if me.rt = 3 then some (some (.long x)) else none
    | _ => none
  | .return_ => match st with
    | [] => if me.rt = 0 then some none else none
    | _ => none
  | _ => none
def isRet : Instr → Bool
  | .ireturn => true
  | .lreturn => true
  | .return_ => true
  | _ => false
def gfld (P : Cl) (x : Nat) (c : Nat) (s : St) : Option Value :=
  match asc P.fx x with
  | none => none
  | some k => match asc P.fs k with
    | none => none
    | some fe => match fe.2.2.1 with
      | 0 => some (.int (gI s 0 k))
      | 1 => some (.int (gI s 0 k))
      | 2 => some (.long (gL s 0 k))
      | j + 3 => if j < c then some (.ref (j + 1)) else none
def pfld (P : Cl) (x : Nat) (ini : Bool) (v : Value) (s : St) : Option St :=
  match asc P.fx x with
  | none => none
  | some k => match asc P.fs k with
    | none => none
    | some fe => if fe.2.2.2 = true ∧ ini = false then none else
      match fe.2.2.1, v with
      | 0, .int z => some (sI s 0 k z)
      | 1, .int z => some (sI s 0 k (z &&& 1))
      | 2, .long z => some (sL s 0 k z)
      | _, _ => none
def newF (P : Cl) (t : ArrayType) (cd : Cd) (pc c : Nat) (st : List Value) : Bool :=
  match st with
  | [.int n, .ref 0] => match fetch cd (pc + 2) with
    | some (.putfield x, 3) => match asc P.fx x with
      | some k => match asc P.fs k with
        | some fe => match P.al[c]? with
          | some (tt, N) => decide (fe.2.2.1 = c + 3 ∧ t = atOf tt ∧ 0 ≤ n.toInt ∧ n.toInt = N ∧ N < 1000000)
          | none => false
        | none => false
      | none => false
    | _ => false
  | _ => false
def lda (P : Cl) (tt c : Nat) (st : List Value) (s : St) : Option (List Value) :=
  match st with
  | .int i :: .ref (a + 1) :: r => match P.al[a]? with
    | some (t2, N) => if t2 = tt ∧ a < c then (if inb N i then some ((if tt = 2 then .long (gL s (a + 1) (ix i)) else .int (gI s (a + 1) (ix i))) :: r) else none) else none
    | none => none
  | _ => none
def sta (P : Cl) (tt c : Nat) (st : List Value) (s : St) : Option (List Value × St) :=
  match st with
  | v :: .int i :: .ref (a + 1) :: r => match P.al[a]? with
    | some (t2, N) => if t2 = tt ∧ a < c then (if inb N i then (match tt, v with
        | 0, .int z => some (r, sI s (a + 1) (ix i) z)
        | 1, .int z => some (r, sI s (a + 1) (ix i) (z &&& 1))
        | 2, .long z => some (r, sL s (a + 1) (ix i) z)
        | _, _ => none) else none) else none
    | none => none
  | _ => none
def cstep {α : Type} (P : Cl) (mi : Nat) (me : Me) (rt : Option Value → St → Option α) (cl : Nat → Nat → List Value → St → Rs) (k : Nat → Nat → Lv → List Value → St → Option α) (i : Instr) (c pc : Nat) (ls : Lv) (st : List Value) (s : St) : Option α :=
  match i with
  | .getfield x => match st with
    | .ref 0 :: r => (match gfld P x c s with | some v => k c (pc + 3) ls (v :: r) s | none => none)
    | _ => none
  | .putfield x => match st with
    | v :: .ref 0 :: r => (match pfld P x (mi == 0) v s with | some s' => k c (pc + 3) ls r s' | none => none)
    | _ => none
  | .iaload => match lda P 0 c st s with | some st' => k c (pc + 1) ls st' s | none => none
  | .baload => match lda P 1 c st s with | some st' => k c (pc + 1) ls st' s | none => none
  | .laload => match lda P 2 c st s with | some st' => k c (pc + 1) ls st' s | none => none
  | .iastore => match sta P 0 c st s with | some (st', s') => k c (pc + 1) ls st' s' | none => none
  | .bastore => match sta P 1 c st s with | some (st', s') => k c (pc + 1) ls st' s' | none => none
  | .lastore => match sta P 2 c st s with | some (st', s') => k c (pc + 1) ls st' s' | none => none
  | .newarray t => if mi = 0 ∧ newF P t me.cd pc c st = true then k (c + 1) (pc + 5) ls [] s else none
  | .ldc x => match asc P.kx x with | some (.int z) => k c (pc + 2) ls (.int z :: st) s | _ => none
  | .ldc2_w x => match asc P.kx x with | some (.long z) => k c (pc + 3) ls (.long z :: st) s | _ => none
  | .invokespecial x => match st with
    | .ref 0 :: r => if x = P.oi ∧ 1 ≤ me.rf ∧ cats r + 12 ≤ me.rl then k c (pc + 3) ls r s else none
    | _ => none
  | .invokevirtual x => match asc P.mx x with
    | none => none
    | some m' => match asc P.ms m' with
      | none => none
      | some me' => match st.drop me'.na with
        | .ref 0 :: r => if m' ≠ 0 ∧ me'.rf + 1 ≤ me.rf ∧ cats r + (me'.ml + 11) + me'.rl ≤ me.rl ∧ nd (st.take me'.na) = true then
            (match cl m' c (.ref 0 :: (st.take me'.na).reverse) s with
             | some (none, s') => k c (pc + 3) ls r s'
             | some (some v, s') => k c (pc + 3) ls (v :: r) s'
             | none => none) else none
        | _ => none
  | i => if isRet i = true then (if mi = 0 ∧ c ≠ P.al.length then none else match cret me st i with | some v => rt v s | none => none)
    else match pstep i pc ls st with | some (pc', ls', st') => k c pc' ls' st' s | none => none
def cexec (P : Cl) : Nat → Nat → Me → Nat → Nat → Lv → List Value → St → Rs
  | 0, _, _, _, _, _, _, _ => none
  | f + 1, mi, me, c, pc, ls, st, s => match fetch me.cd pc with
    | none => none
    | some (i, _) => cstep P mi me (fun v s => some (v, s)) (fun m' c as s => match asc P.ms m' with | some me' => (if (layA as).length ≤ me'.ml then cexec P f m' me' c 0 (lay as me'.ml) [] s else none) | none => none) (cexec P f mi me) i c pc ls st s
def ccall (P : Cl) (f m' c : Nat) (as : List Value) (s : St) : Rs := match asc P.ms m' with | some me' => (if (layA as).length ≤ me'.ml then cexec P f m' me' c 0 (lay as me'.ml) [] s else none) | none => none
end Jvm.LM

namespace Jvm.LM
open Sem ClassFile Op Lib Jvm.Stand Jvm.Free Jvm.LawKit Jvm.RoadKit
/-! how the machine's state stands in the heap -/
theorem adr_ne (a j : Nat) : a + (j + 1) ≠ a := by omega
theorem adr_ne' (a j : Nat) : a ≠ a + (j + 1) := by omega
theorem adr_ne2 (a : Nat) {j k : Nat} (h : j ≠ k) : a + (j + 1) ≠ a + (k + 1) := by omega
def Fval (adr c : Nat) (s : St) (k : Nat) (fe : Fe) : Value :=
  match fe.2.2.1 with
  | 0 => .int (gI s 0 k)
  | 1 => .int (gI s 0 k)
  | 2 => .long (gL s 0 k)
  | j + 3 => if j < c then .ref (adr + (j + 1)) else .null
def elv (tt : Nat) (s : St) (j i : Nat) : Value := if tt = 2 then .long (gL s j i) else .int (gI s j i)
def ARep (Z : State) (h : Heap) (a tt N : Nat) (s : St) (j : Nat) : Prop :=
  ∃ cl : Cell, Arr Z h a cl (tyOf tt) ∧ cl.slots.size = N ∧ ∀ i, i < N → cl.slots[i]? = some (elv tt s j i)
def HRep (P : Cl) (Z : State) (h : Heap) (adr c : Nat) (s : St) : Prop :=
  Exa Z h adr P.nm ∧ (∀ k fe, asc P.fs k = some fe → Fld Z h adr P.nm fe.1 fe.2.1 (Fval adr c s k fe)) ∧
  (∀ (j tt N : Nat), P.al[j]? = some (tt, N) → j < c → ARep Z h (adr + (j + 1)) tt N s (j + 1)) ∧
  (∀ j i, c < j → gI s j i = 0 ∧ gL s j i = 0) ∧ c ≤ P.al.length
def fkTy (P : Cl) : Nat → FieldType
  | 0 => .int
  | 1 => .boolean
  | 2 => .long
  | j + 3 => .array (tyOf ((P.al[j]?.map (·.1)).getD 0))
def yOf (P : Cl) (me : Me) : MethodName := ⟨P.nm, me.nm, me.ds⟩
def LinkC (P : Cl) (Z : State) (a0 : Array Value) : Prop :=
  ((∃ nF, (Cond.instantiable P.nm nF).before a0 Z = true) ∧ (Cond.initialized P.nm).before a0 Z = true) ∧
  (∀ x k, asc P.fx x = some k → ∀ fe, asc P.fs k = some fe → (Cond.fieldLink P.nm x P.nm fe.1 fe.2.1).before a0 Z = true) ∧
  (∀ k fe, asc P.fs k = some fe → (if fe.2.2.2 = true then Cond.laysFinal P.nm P.nm fe.1 fe.2.1 else Cond.lays P.nm P.nm fe.1 fe.2.1).before a0 Z = true) ∧
  (∀ k fe, asc P.fs k = some fe → parseFieldDescriptor fe.2.1 = some (fkTy P fe.2.2.1)) ∧
  (∀ k k' fe fe', asc P.fs k = some fe → asc P.fs k' = some fe' → k ≠ k' → fe.1 ≠ fe'.1 ∧ (3 ≤ fe.2.2.1 → fe.2.2.1 ≠ fe'.2.2.1)) ∧
  (∀ (j tt N : Nat), P.al[j]? = some (tt, N) → tt ≤ 2 ∧ (Cond.arrayClass (tyOf tt)).before a0 Z = true) ∧
  (∀ x v, asc P.kx x = some v → match v with
    | .int z => (Cond.constant P.nm x z).before a0 Z = true
    | .long z => (Cond.constantLong P.nm x z).before a0 Z = true
    | _ => True) ∧
  ((Cond.methodLink P.nm P.oi Lib.objectInit).before a0 Z = true ∧ (Cond.instanceMethod Lib.objectInit).before a0 Z = true ∧ (Cond.code Lib.objectInit ⟨#[0xb1]⟩ 1 none).before a0 Z = true) ∧
  (∀ mi me, asc P.ms mi = some me → ∃ (bytes : ByteArray) (ps : List FieldType), (Cond.code (yOf P me) bytes me.ml (retOf me.rt)).before a0 Z = true ∧
    (∀ pc i n, fetch me.cd pc = some (i, n) → decode bytes pc = .ok (i, n) ∧ (isSw i = true ∨ n = ilen i)) ∧ parseMethodDescriptor me.ds = some ⟨ps, retOf me.rt⟩ ∧ ps.length = me.na) ∧
  (∀ x mi, asc P.mx x = some mi → ∀ me, asc P.ms mi = some me → (Cond.methodLink P.nm x (yOf P me)).before a0 Z = true ∧ (Cond.instanceMethod (yOf P me)).before a0 Z = true ∧
    ((Cond.privateMethod (yOf P me)).before a0 Z = true ∨ ((Cond.declares (yOf P me)).before a0 Z = true ∧ (Cond.selects P.nm (yOf P me) (yOf P me)).before a0 Z = true))) ∧
  plainName P.nm = true ∧ (P.nm ≠ "java/lang/invoke/MethodHandle" ∧ P.nm ≠ "java/lang/invoke/VarHandle") ∧ (∀ me, asc P.ms 0 = some me → me.nm = "<init>")
theorem gI_sI (s : St) (c j : Nat) (v : Int32) (a b : Nat) : gI (sI s c j v) a b = if a = c ∧ b = j then v else gI s a b := rfl
theorem gL_sI (s : St) (c j : Nat) (v : Int32) (a b : Nat) : gL (sI s c j v) a b = gL s a b := rfl
theorem gI_sL (s : St) (c j : Nat) (v : Int64) (a b : Nat) : gI (sL s c j v) a b = gI s a b := rfl
theorem gL_sL (s : St) (c j : Nat) (v : Int64) (a b : Nat) : gL (sL s c j v) a b = if a = c ∧ b = j then v else gL s a b := rfl
theorem laid_of {P : Cl} {Z : State} {a0 : Array Value} (LK : LinkC P Z a0) {k : Nat} {fe : Fe} (hk : asc P.fs k = some fe) : Laid Z a0 P.nm P.nm fe.1 fe.2.1 := by
  have q := LK.2.2.1 k fe hk
  split at q
  · exact Or.inr q
  · exact Or.inl q
/-- a heap that is alike where the object lies -/
theorem HRep.congr {P : Cl} {Z : State} {h h' : Heap} {adr c : Nat} {s : St} (H : HRep P Z h adr c s) (e : ∀ x, adr ≤ x → x < adr + 1 + P.al.length → h'[x]? = h[x]?) : HRep P Z h' adr c s := by
  obtain ⟨h1, h2, h3, h4, h5⟩ := H
  have ea : h'[adr]? = h[adr]? := e adr (Nat.le_refl _) (by omega)
  refine ⟨?_, fun k fe hk => ?_, fun j tt N hj hc => ?_, h4, h5⟩
  · obtain ⟨cell, k, q1, r⟩ := h1; exact ⟨cell, k, by rw [ea]; exact q1, r⟩
  · obtain ⟨cell, cf, k, i, f, q1, r⟩ := h2 k fe hk; exact ⟨cell, cf, k, i, f, by rw [ea]; exact q1, r⟩
  · obtain ⟨cl, ⟨q1, q2⟩, q3⟩ := h3 j tt N hj hc
    exact ⟨cl, ⟨by rw [e _ (by omega) (by omega)]; exact q1, q2⟩, q3⟩
theorem HRep.putFld {P : Cl} {Z : State} {a0 : Array Value} (LK : LinkC P Z a0) {h h' : Heap} {adr c k : Nat} {fe : Fe} {s s' : St} {v : Value} (H : HRep P Z h adr c s) (hk : asc P.fs k = some fe)
    (W : Wr h h' adr (RoadKit.slotOf Z P.nm fe.1 fe.2.1) v) (hv : v = Fval adr c s' k fe) (hI : ∀ a b, (a ≠ 0 ∨ b ≠ k) → gI s' a b = gI s a b ∧ gL s' a b = gL s a b) : HRep P Z h' adr c s' := by
  obtain ⟨h1, h2, h3, h4, h5⟩ := H
  refine ⟨h1.wr W, fun k2 fe2 hk2 => ?_, fun j tt N hj hc => ?_, fun j i hj => ?_, h5⟩
  · by_cases e : k2 = k
    · subst e; cases hk.symm.trans hk2
      rw [← hv]; exact (h2 _ _ hk).same W
    · have hne := (LK.2.2.2.2.1 _ _ _ _ hk2 hk e).1
      have q := (h2 _ _ hk2).other W (Or.inr (slot_ne (laid_of LK hk2) (laid_of LK hk) hne (LK.2.2.2.1 _ _ hk2) (LK.2.2.2.1 _ _ hk)))
      have e2 : Fval adr c s' k2 fe2 = Fval adr c s k2 fe2 := by
        have := hI 0 k2 (Or.inr e)
        simp only [Fval]; split <;> simp [this.1, this.2]
      rw [e2]; exact q
  · obtain ⟨cl, q1, q2, q3⟩ := h3 j tt N hj hc
    refine ⟨cl, q1.other W (adr_ne _ _), q2, fun i hi => ?_⟩
    have := hI (j + 1) i (Or.inl (by omega))
    rw [q3 i hi]; simp only [elv, this.1, this.2]
  · have := hI j i (Or.inl (by omega))
    rw [this.1, this.2]; exact h4 j i hj
theorem HRep.putArr {P : Cl} {Z : State} {h h' : Heap} {adr c a tt N n : Nat} {s s' : St} {v : Value} (H : HRep P Z h adr c s) (ha : P.al[a]? = some (tt, N)) (hac : a < c) (hn : n < N)
    (W : Wr h h' (adr + (a + 1)) n v) (hv : v = elv tt s' (a + 1) n) (hI : ∀ x y, (x ≠ a + 1 ∨ y ≠ n) → gI s' x y = gI s x y ∧ gL s' x y = gL s x y) : HRep P Z h' adr c s' := by
  obtain ⟨h1, h2, h3, h4, h5⟩ := H
  refine ⟨h1.wr W, fun k fe hk => ?_, fun j tt2 N2 hj hc => ?_, fun j i hj => ?_, h5⟩
  · have q := (h2 _ _ hk).other W (Or.inl (adr_ne' _ _))
    have e2 : Fval adr c s' k fe = Fval adr c s k fe := by
      have := hI 0 k (Or.inl (by omega))
      simp only [Fval]; split <;> simp [this.1, this.2]
    rw [e2]; exact q
  · obtain ⟨cl, q1, q2, q3⟩ := h3 j tt2 N2 hj hc
    by_cases e : j = a
    · subst e; cases ha.symm.trans hj
      refine ⟨cl.setSlot n v, q1.same W, by rw [sz_set]; exact q2, fun i hi => ?_⟩
      by_cases ei : i = n
      · subst ei; rw [← hv]; simp [Cell.setSlot, q2, hi]
      · have := hI (j + 1) i (Or.inr ei)
        have q4 := q3 i hi
        simp only [elv, this.1, this.2] at q4 ⊢
        simp only [Cell.setSlot]
        rw [Array.getElem?_setIfInBounds_ne (fun q => ei q.symm)]; exact q4
    · refine ⟨cl, q1.other W (adr_ne2 _ e), q2, fun i hi => ?_⟩
      have := hI (j + 1) i (Or.inl (by omega))
      rw [q3 i hi]; simp only [elv, this.1, this.2]
  · have := hI j i (Or.inl (by omega))
    rw [this.1, this.2]; exact h4 j i hj
theorem HRep.newArr {P : Cl} {Z : State} {a0 : Array Value} (LK : LinkC P Z a0) {h h1 h2 : Heap} {adr c k tt N : Nat} {fe : Fe} {s : St} {n : Int32} {cA : ClassId} (H : HRep P Z h adr c s) (hk : asc P.fs k = some fe) (hkd : fe.2.2.1 = c + 3)
    (ha : P.al[c]? = some (tt, N)) (hn0 : 0 ≤ n.toInt) (hn : n.toInt = N) (hsz : h.size = adr + 1 + c) (E : Ext h h1) (A : Arr Z h1 h.size (newA cA (tyOf tt) n) (tyOf tt)) (W : Wr h1 h2 adr (RoadKit.slotOf Z P.nm fe.1 fe.2.1) (.ref h.size)) : HRep P Z h2 adr (c + 1) s := by
  obtain ⟨g1, g2, g3, g4, g5⟩ := H
  have hc : c < P.al.length := (List.getElem?_eq_some_iff.mp ha).1
  have hNn : n.toNatClampNeg = N := by simp only [Int32.toNatClampNeg]; omega
  have htt := (LK.2.2.2.2.2.1 _ _ _ ha).1
  refine ⟨(g1.ext E).wr W, fun k2 fe2 hk2 => ?_, fun j tt2 N2 hj hjc => ?_, fun j i hj => g4 j i (by omega), hc⟩
  · by_cases e : k2 = k
    · subst e; cases hk.symm.trans hk2
      have q := ((g2 _ _ hk).ext E).same W
      have e2 : Fval adr (c + 1) s k2 fe = .ref h.size := by simp only [Fval, hkd]; rw [if_pos (Nat.lt_succ_self c), hsz]; exact congrArg Value.ref (show adr + (c + 1) = adr + 1 + c by omega)
      rw [e2]; exact q
    · have hne := LK.2.2.2.2.1 _ _ _ _ hk2 hk e
      have q := ((g2 _ _ hk2).ext E).other W (Or.inr (slot_ne (laid_of LK hk2) (laid_of LK hk) hne.1 (LK.2.2.2.1 _ _ hk2) (LK.2.2.2.1 _ _ hk)))
      have e2 : Fval adr (c + 1) s k2 fe2 = Fval adr c s k2 fe2 := by
        simp only [Fval]; split
        · rfl
        · rfl
        · rfl
        · rename_i j hj
          have : j ≠ c := fun q => (hne.2 (by rw [hj]; omega)) (by rw [hj, hkd, q])
          by_cases b : j < c
          · rw [if_pos b, if_pos (by omega)]
          · rw [if_neg b, if_neg (by omega)]
      rw [e2]; exact q
  · by_cases e : j = c
    · subst e; cases ha.symm.trans hj
      have hA : Arr Z h2 h.size (newA cA (tyOf tt) n) (tyOf tt) := A.other W (show h.size ≠ adr by omega)
      refine ⟨newA cA (tyOf tt) n, by rw [show adr + (j + 1) = h.size by omega]; exact hA, by rw [sz_new]; exact hNn, fun i hi => ?_⟩
      have z := g4 (j + 1) i (by omega)
      simp only [newA, hNn, elv, z.1, z.2]
      rw [Array.getElem?_replicate, if_pos hi]
      have : tt = 0 ∨ tt = 1 ∨ tt = 2 := by omega
      rcases this with rfl | rfl | rfl <;> rfl
    · obtain ⟨cl, q1, q2, q3⟩ := g3 j tt2 N2 hj (by omega)
      exact ⟨cl, (q1.ext E).other W (adr_ne _ _), q2, q3⟩
/-- outside the object nothing moves -/
def Kp (h0 h : Heap) (adr n : Nat) : Prop := ∀ x, (x < adr ∨ adr + 1 + n ≤ x) → h[x]? = h0[x]?
theorem Kp.wr {h0 h h' : Heap} {adr n a sl : Nat} {v : Value} (K : Kp h0 h adr n) (W : Wr h h' a sl v) (h1 : adr ≤ a) (h2 : a < adr + 1 + n) : Kp h0 h' adr n := fun x hx => by
  obtain ⟨cell, q1, q2, q3, rfl⟩ := W
  rw [Array.getElem?_setIfInBounds_ne (by omega)]; exact K x hx
theorem Kp.ext {h0 h h' : Heap} {adr n : Nat} (K : Kp h0 h adr n) (E : Ext h h') (h1 : h'.size ≤ adr + 1 + n) (h2 : adr ≤ h.size) : Kp h0 h' adr n := fun x hx => by
  rw [← K x hx]
  by_cases b : x < h.size
  · obtain ⟨c, hc⟩ : ∃ c, h[x]? = some c := ⟨h[x], Array.getElem?_eq_getElem b⟩
    rw [hc]; exact E.2 _ _ hc
  · rw [Array.getElem?_eq_none (by omega), Array.getElem?_eq_none (by omega)]
theorem Kp.trans {h0 h h' : Heap} {adr n : Nat} (K : Kp h0 h adr n) (K' : Kp h h' adr n) : Kp h0 h' adr n := fun x hx => (K' x hx).trans (K x hx)
def cRoom (P : Cl) (mi : Nat) (me : Me) : Room := { frames := me.rf, cells := if mi = 0 then P.al.length else 0, slots := if mi = 0 then zs P.al P.al.length else 0, locals := me.rl }
def QC (P : Cl) (Z : State) (n0 adr mi c : Nat) (w : Option Value) (s' : St) (h0 : Heap) (v : Option Value) (h : Heap) (L : List Loc) : Prop :=
  (v = w ∧ ∀ ρ, v.toList.map (va ρ) = v.toList) ∧ Fr n0 L ∧ HRep P Z h adr (if mi = 0 then P.al.length else c) s' ∧ Kp h0 h adr P.al.length ∧ h.size = (if mi = 0 then adr + 1 + P.al.length else h0.size)
/-- the run from S ends, and so -/
def Don (p : Program) (e : Env) (below : List Frame) (s₀ : State) (rm : Room) (Q : Option Value → Heap → List Loc → Prop) (S : State) : Prop :=
  ∃ s₂ o, Steps p.tables e below S s₂ ∧ s₂.status = .running ∧ Ended s₂ below o ∧ ∃ v L, o = .returned v ∧ Q v s₂.heap L ∧ FrameEnd s₀ o s₂ L rm.cells rm.slots
theorem Don.step {p : Program} {e : Env} {below : List Frame} {s₀ : State} {rm : Room} {Q : Option Value → Heap → List Loc → Prop} {S S' : State} (h : ∀ t, Steps p.tables e below S' t → Steps p.tables e below S t) (D : Don p e below s₀ rm Q S') : Don p e below s₀ rm Q S := by
  obtain ⟨s₂, o, h1, h2⟩ := D; exact ⟨s₂, o, h _ h1, h2⟩
def Inv (P : Cl) (Z : State) (n0 adr mi c : Nat) (s : St) (h0 h : Heap) (locs : List Loc) : Prop :=
  HRep P Z h adr c s ∧ Fr n0 locs ∧ Kp h0 h adr P.al.length ∧ h.size = (if mi = 0 then adr + 1 + c else h0.size)
def co (mi c : Nat) : Nat := if mi = 0 then c else 0
def zo (P : Cl) (mi c : Nat) : Nat := if mi = 0 then zs P.al c else 0
/-- what the walk of a body is to show, at a given fuel -/
def CW (P : Cl) (Z : State) (n0 adr f mi : Nat) (me : Me) : Prop :=
  ∀ (p : Program) (l : Launch) (e : Env) (s₀ : State) (m : MethodId) (args : Array Value) (below : List Frame) (meth : Method) (cd : Code) (T : State) (locs : List Loc) (h0 : Heap) (c pc : Nat) (ls : Lv) (st : List Value) (s : St) (v : Option Value) (s' : St) (L : Array Slot),
    p.tables.exec = Jvm.exec → Z.Warmed39 s₀.vm → s₀.vm.findClass P.nm = some m.cls → meth.name = me.nm → meth.sig.returnType = retOf me.rt → cd.maxLocals = me.ml → meth.locks = false → (mi = 0 → s₀.heap.size = adr + 1) →
    (∀ pc i n, fetch me.cd pc = some (i, n) → decode cd.code pc = .ok (i, n) ∧ (isSw i = true ∨ n = ilen i)) →
    cexec P f mi me c pc ls st s = some (v, s') →
    Stand p l e (cRoom P mi me) s₀ m args below meth cd T locs (co mi c) (zo P mi c) →
    Inv P Z n0 adr mi c s h0 T.heap locs → LR (adr + ·) ls L → ls.length = me.ml →
    Don p e below s₀ (cRoom P mi me) (QC P Z n0 adr mi c v s' h0) (T.setTop (mkF m pc L (st.map (va (adr + ·)))))
theorem zs_mono (al : List (Nat × Nat)) {a b : Nat} (h : a ≤ b) : zs al a ≤ zs al b := by
  obtain ⟨d, rfl⟩ := Nat.le.dest h
  simp only [zs]
  rw [List.take_add, List.map_append, List.sum_append]; omega
theorem zs_succ (al : List (Nat × Nat)) {c tt N : Nat} (h : al[c]? = some (tt, N)) : zs al (c + 1) = zs al c + N := by
  simp only [zs, List.take_add_one, h]; simp
theorem zs_le (al : List (Nat × Nat)) (a : Nat) : zs al a ≤ zs al al.length := by
  by_cases h : a ≤ al.length
  · exact zs_mono al h
  · simp only [zs]; rw [List.take_of_length_le (by omega), List.take_of_length_le (Nat.le_refl _)]
    exact Nat.le_refl _
theorem narrow_I (z : Int32) : narrow .int (.int z) = .int z := rfl
theorem inb_not {n : Nat} {i : Int32} (h : inb n i) : ¬ (i < 0 ∨ n ≤ i.toNatClampNeg) := by
  intro q
  simp only [Int32.lt_iff_toInt_lt, Int32.toNatClampNeg, Int32.reduceToInt] at q
  have := h.1; have := h.2
  omega
theorem inb_ix {n : Nat} {i : Int32} (h : inb n i) : ix i < n := by
  have := h.1; have := h.2
  simp only [ix, Int32.toNatClampNeg]; omega
end Jvm.LM

namespace Jvm.LM
open Sem ClassFile Op Lib Jvm.Stand Jvm.Free Jvm.LawKit Jvm.RoadKit
/-! entering a method -/
def slA : List Value → List Slot
  | [] => []
  | v :: r => if v.category = 2 then .val v :: .second :: slA r else .val v :: slA r
theorem foldl_slA (as : List Value) (acc : Array Slot) : as.foldl (fun acc v => if v.category = 2 then (acc.push (.val v)).push .second else acc.push (.val v)) acc = acc ++ (slA as).toArray := by
  induction as generalizing acc with
  | nil => simp [slA]
  | cons v r ih =>
    rw [List.foldl_cons, ih]
    simp only [slA]
    split <;> simp
theorem al_eq (args : Array Value) (n : Nat) : argsToLocals args n = (let filled := args.foldl (init := #[]) fun acc v => if v.category = 2 then (acc.push (.val v)).push .second else acc.push (.val v); filled ++ Array.replicate (n - filled.size) .unset) := rfl
theorem atl_eq (as : List Value) (n : Nat) : argsToLocals as.toArray n = (slA as ++ List.replicate (n - (slA as).length) Slot.unset).toArray := by
  rw [al_eq]
  have : Array.foldl (fun acc v => if v.category = 2 then (acc.push (Slot.val v)).push .second else acc.push (.val v)) #[] as.toArray = (slA as).toArray := by
    rw [List.foldl_toArray, foldl_slA]; simp
  simp only [this]
  simp
theorem wfl_one {x : Slot} {l : List Slot} (h : WFf (fun k => l[k]?)) (hx : x ≠ .second) (hc : ∀ v, x = .val v → v.category ≠ 2) : WFf (fun k => (x :: l)[k]?) := by
  obtain ⟨h1, h2, h3⟩ := h
  refine ⟨fun k v hk hv => ?_, fun k hk => ?_, ?_⟩
  · cases k with
    | zero => simp at hk; exact absurd hv (hc v hk)
    | succ k => simp at hk ⊢; exact h1 k v hk hv
  · cases k with
    | zero => simp at hk; exact absurd (by simpa using hk) h3
    | succ k => simp at hk ⊢; exact h2 k (by simpa using hk)
  · simpa using hx
theorem wfl_two {v : Value} {l : List Slot} (h : WFf (fun k => l[k]?)) (hc : v.category = 2) : WFf (fun k => (Slot.val v :: .second :: l)[k]?) := by
  obtain ⟨h1, h2, h3⟩ := h
  refine ⟨fun k w hk hv => ?_, fun k hk => ?_, by simp⟩
  · match k with
    | 0 => simp
    | 1 => simp at hk
    | k + 2 => simp at hk ⊢; exact h1 k w hk hv
  · match k with
    | 0 => exact ⟨v, by simp, hc⟩
    | 1 => exact absurd (by simpa using hk) h3
    | k + 2 => simp at hk ⊢; exact h2 k (by simpa using hk)
theorem wfl_rep (n : Nat) : WFf (fun k => (List.replicate n Slot.unset)[k]?) := by
  refine ⟨fun k v hk _ => ?_, fun k hk => ?_, ?_⟩
  · simp [List.getElem?_replicate] at hk
  · simp [List.getElem?_replicate] at hk
  · simp [List.getElem?_replicate]
theorem wfl_slA (as : List Value) (r : List Slot) (h : WFf (fun k => r[k]?)) : WFf (fun k => (slA as ++ r)[k]?) := by
  induction as with
  | nil => simpa [slA] using h
  | cons v t ih =>
    simp only [slA]
    split
    · rename_i hc; exact wfl_two ih hc
    · rename_i hc; exact wfl_one ih (by simp) (fun w hw => by cases hw; exact hc)
theorem slA_len (ρ : Nat → Nat) (as : List Value) (hd : ∀ v ∈ as, ∀ x, v ≠ .double x) : (slA (as.map (va ρ))).length = (layA as).length := by
  induction as with
  | nil => rfl
  | cons v t ih =>
    have ih := ih fun w hw => hd w (List.mem_cons_of_mem _ hw)
    cases v <;> simp [slA, layA, va, Value.category, ih]
    exact absurd rfl (hd _ (List.mem_cons_self ..) _)
theorem layA_get {ρ : Nat → Nat} {as : List Value} (hd : ∀ v ∈ as, ∀ x, v ≠ .double x) {k : Nat} {w : Value} (h : (layA as)[k]? = some (some w)) : (slA (as.map (va ρ)))[k]? = some (.val (va ρ w)) := by
  induction as generalizing k with
  | nil => simp [layA] at h
  | cons v t ih =>
    have ih' := fun {k} => ih (k := k) fun w hw => hd w (List.mem_cons_of_mem _ hw)
    cases v
    case long x =>
      simp only [layA] at h
      match k with
      | 0 => simp at h; subst h; simp [slA, va, Value.category]
      | 1 => simp at h
      | k + 2 => simp at h; simpa [slA, va, Value.category] using ih' h
    case double x => exact absurd rfl (hd _ (List.mem_cons_self ..) _)
    all_goals
      simp only [layA] at h
      match k with
      | 0 => simp at h; subst h; simp [slA, va, Value.category]
      | k + 1 => simp at h; simpa [slA, va, Value.category] using ih' h
theorem lay_LR {ρ : Nat → Nat} {as : List Value} (hd : ∀ v ∈ as, ∀ x, v ≠ .double x) {n : Nat} (hn : (layA as).length ≤ n) : LR ρ (lay as n) (argsToLocals (as.map (va ρ)).toArray n) := by
  rw [atl_eq]
  have hl := slA_len ρ as hd
  refine ⟨by simp [lay, hl], fun k w hk => ?_, ?_⟩
  · simp only [lay] at hk
    rw [List.getElem?_append] at hk
    split at hk
    · have := layA_get (ρ := ρ) hd hk
      rw [List.getElem?_toArray, List.getElem?_append_left (by omega)]; exact this
    · simp [List.getElem?_replicate] at hk
  · have := wfl_slA (as.map (va ρ)) (List.replicate (n - (slA (as.map (va ρ))).length) Slot.unset) (wfl_rep _)
    have q : WFf (fun k => ((slA (as.map (va ρ)) ++ List.replicate (n - (slA (as.map (va ρ))).length) Slot.unset).toArray)[k]?) := by
      simpa using this
    exact q
theorem lay_len {as : List Value} {n : Nat} (hn : (layA as).length ≤ n) : (lay as n).length = n := by simp [lay]; omega
section Call
variable {p : Program} {l : Launch} {e : Env} {R : Room} {s : State} {m : MethodId} {args : Array Value} {below : List Frame} {meth : Method} {c : Code} {T : State} {locs : List Loc} {cells slots : Nat}
/-- a private method of a class that is no interface -/
theorem privCall (X : Stand p l e R s m args below meth c T locs cells slots) (hexec : p.tables.exec = Jvm.exec) {own : String} {index : Nat} {y : MethodName} {bytes : ByteArray} {maxL nF : Nat} {ret : Option FieldType}
    (hown : s.vm.findClass own = some m.cls) (hlink : (Cond.methodLink own index y).before args s = true) (hinst : (Cond.instanceMethod y).before args s = true) (hi : (Cond.instantiable y.cls nF).before args s = true)
    (hpriv : s.PrivateAt y) (hcode : (Cond.code y bytes maxL ret).before args s = true) (hy : y.cls ≠ "java/lang/invoke/MethodHandle" ∧ y.cls ≠ "java/lang/invoke/VarHandle")
    {W : Nat} {Pre : Free.Pt → Array Value → Prop} {Post : Free.Pt → Array Value → Option Value → Free.Pt → Prop} (hK : Free.Back l R p e below s args y 3 W Pre Post)
    {g : JFrame} (hg : g.method = m) (hsize : g.locals.size = c.maxLocals) {a : Addr} {cell : Cell} (hcell : T.heap[a]? = some cell) (hobj : ∀ q, cell.vm ≠ .statics q)
    {argsL rest : List Value} (hlen : ∀ sig, parseMethodDescriptor y.desc = some sig → argsL.length = sig.parameters.length)
    (hstack : g.stack = argsL.reverse ++ .ref a :: rest) (hW : 2 * g.monitorRoom + (rest.map fun v => v.category).sum ≤ W) (hdg : decode c.code g.pc = .ok (.invokevirtual index, 3))
    (hpre : ∀ vm₁, s.WarmedH vm₁ → Pre ⟨T.setVm vm₁, locs, cells, slots⟩ (.ref a :: argsL).toArray) :
    ∃ (v : Option Value) (vm₁ : Vm) (B : Free.Pt), s.WarmedH vm₁ ∧ Stand p l e R s m args below meth c B.U B.locs B.cells B.slots ∧ Post ⟨T.setVm vm₁, locs, cells, slots⟩ (.ref a :: argsL).toArray v B ∧
      Steps p.tables e below (T.setTop g) (B.U.setTop { g with pc := g.pc + 3, stack := v.toList ++ rest }) := by
  obtain ⟨mk, mM, hnamed, hmM, hst, hab⟩ := Cond.instanceMethod_spec hinst
  obtain ⟨mM', cM, hmM', -, -, -, -, -, -, hsig⟩ := Cond.code_spec hnamed hcode
  cases hmM.symm.trans hmM'
  obtain ⟨cc, kk, i1, i2, -, i4, -⟩ := Cond.instantiable_spec hi
  cases (findClass_of_methodNamed hnamed).symm.trans i1
  have hni : kk.isInterface = false := by
    cases q : kk.isInterface
    · rfl
    · rw [q] at i4; simp at i4
  have hsel : selectMethod e.platform s.vm cell.cls mk = .method mk := selectMethod_private hmM (hpriv mk mM hnamed hmM)
  obtain ⟨vm₁, X₁, hstep⟩ := X.invokevirtual hexec hown hlink hnamed hmM hst i2 hni hy hcell hobj hsel hmM hab i2 hni (g := g) hg (hlen _ hsig) hstack hdg
  obtain ⟨v, B, X', hpost, hs⟩ := hK m meth c ⟨T.setVm vm₁, locs, cells, slots⟩ { g with stack := rest } (.invokevirtual index) mk (.ref a :: argsL).toArray X₁ hg hsize hdg hW (X₁.named hnamed) (hpre vm₁ X₁.warmed)
  exact ⟨v, vm₁, B, X₁.warmed, X', hpost, hstep _ fun acts => by rw [doInvoke_state]; exact hs⟩
end Call
theorem cats_va (ρ : Nat → Nat) (st : List Value) : ((st.map (va ρ)).map fun v => v.category).sum = cats st := by
  simp only [cats, List.map_map]; congr 1; exact List.map_congr_left fun v _ => cat_va ρ v
/-- what a method of the class keeps, as a contract, from its walk -/
theorem met_of_CW {P : Cl} {Z : State} {a0 : Array Value} (LK : LinkC P Z a0) {n0 adr f mi : Nat} {me : Me} (hme : asc P.ms mi = some me) (hW : CW P Z n0 adr f mi me) (l : Launch) {bytes : ByteArray}
    (hdec : ∀ pc i n, fetch me.cd pc = some (i, n) → decode bytes pc = .ok (i, n) ∧ (isSw i = true ∨ n = ilen i))
    {as : List Value} (hd : ∀ v ∈ as, ∀ x, v ≠ .double x) (hlen : (layA as).length ≤ me.ml) {c : Nat} {s s' : St} {v : Option Value} {h : Heap} (hr : cexec P f mi me c 0 (lay as me.ml) [] s = some (v, s')) (hc : mi = 0 → c = 0)
    (H : HRep P Z h adr c s) (hsz : mi = 0 → h.size = adr + 1) :
    MetFree l (yOf P me) (head1 [Cond.code (yOf P me) bytes me.ml (retOf me.rt)] (cRoom P mi me)) (fun a U => a = (as.map (va (adr + ·))).toArray ∧ Z.Warmed39 U.vm ∧ U.heap = h) (fun _ _ _ _ _ => True)
      (fun _ U o U' => ∃ w L, o = .returned w ∧ QC P Z n0 adr mi c v s' h w U'.heap L ∧ FrameEnd U o U' L (cRoom P mi me).cells (cRoom P mi me).slots) := by
  refine MetFree.of_bodySF (plainFor_of_name LK.2.2.2.2.2.2.2.2.2.2.1) hisR ?_
  intro p e s₀ m args below meth cd s₁ Bd hml hP hK
  obtain ⟨rfl, hZ, hh⟩ := hP
  have e0 : s₁.heap = h := by rw [← hh, Bd.state]; rfl
  have X0 : Stand p l e (cRoom P mi me) s₀ m _ below meth cd s₁ [] 0 0 := Stand.of_body Bd
  have hown : s₀.vm.findClass P.nm = some m.cls := findClass_of_methodNamed Bd.named
  have hnm : meth.name = me.nm := (name_of_methodNamed Bd.named Bd.method).1
  have hk0 : co mi c = 0 := by simp only [co]; split; · rename_i q; exact hc q
                               · rfl
  have hz0 : zo P mi c = 0 := by
    simp only [zo]; split
    · rename_i q; rw [hc q]; simp [zs]
    · rfl
  have D := hW p l e s₀ m _ below meth cd s₁ [] h c 0 (lay as me.ml) [] s v s' _ Bd.exec hZ hown hnm Bd.returns hml Bd.notSynchronized (fun q => by rw [hh]; exact hsz q)
    (fun pc i n q => by rw [Bd.bytes]; exact hdec pc i n q) hr (by rw [hk0, hz0]; exact X0)
    ⟨by rw [e0]; exact H, Fr.nil n0, by rw [e0]; exact fun x _ => rfl, by
      rw [e0]; split
      · rename_i q; rw [hsz q, hc q]
      · rfl⟩ (lay_LR hd hlen) (lay_len hlen)
  obtain ⟨s₂, o, a1, a2, a3, w, L, a4, a5, a6⟩ := D
  exact ⟨s₂, o, a1, a2, a3, w, L, a4, a5, a6⟩
end Jvm.LM

namespace Jvm.LM
open Sem ClassFile Op Lib Jvm.Stand Jvm.Free Jvm.LawKit Jvm.RoadKit
section Steps
variable {p : Program} {l : Launch} {e : Env} {R : Room} {s₀ : State} {m : MethodId} {args : Array Value} {below : List Frame} {meth : Method} {cd : Code} {T : State} {locs : List Loc} {cells slots : Nat}
variable {P : Cl} {Z : State} {a0 : Array Value} {n0 adr c mi : Nat} {s s' : St} {h0 : Heap}
theorem gfld_val {x : Nat} {w : Value} (hg : gfld P x c s = some w) : ∃ k fe, asc P.fx x = some k ∧ asc P.fs k = some fe ∧ Fval adr c s k fe = va (adr + ·) w := by
  unfold gfld at hg
  split at hg
  · cases hg
  · rename_i k e1
    split at hg
    · cases hg
    · rename_i fe e2
      refine ⟨k, fe, e1, e2, ?_⟩
      simp only [Fval]
      split at hg
      · rename_i e3; cases hg; first | rfl | (rw [e3]; rfl)
      · rename_i e3; cases hg; first | rfl | (rw [e3]; rfl)
      · rename_i e3; cases hg; first | rfl | (rw [e3]; rfl)
      · rename_i j e3
        split at hg
        · rename_i e4; cases hg; first | (simp only [if_pos e4]; rfl) | (rw [e3]; simp only [if_pos e4]; rfl)
        · cases hg
theorem st_get (LK : LinkC P Z a0) (X : Stand p l e R s₀ m args below meth cd T locs cells slots) (hx : p.tables.exec = Jvm.exec) (hZ : Z.Warmed39 s₀.vm) (hown : s₀.vm.findClass P.nm = some m.cls) (H : HRep P Z T.heap adr c s) {x pc : Nat} {w : Value} (hg : gfld P x c s = some w)
    (hd : decode cd.code pc = .ok (.getfield x, 3)) {L : Array Slot} {r : List Value} :
    ∃ T', Stand p l e R s₀ m args below meth cd T' locs cells slots ∧ T'.heap = T.heap ∧ ∀ t, Steps p.tables e below (T'.setTop (mkF m (pc + 3) L (va (adr + ·) w :: r))) t → Steps p.tables e below (T.setTop (mkF m pc L (.ref adr :: r))) t := by
  obtain ⟨k, fe, e1, e2, e3⟩ := gfld_val (adr := adr) hg
  have F := H.2.1 k fe e2
  rw [e3] at F
  exact getF X hx hZ hown (host := "") (Or.inl (LK.2.1 _ _ e1 _ e2)) Via.refl rfl F (g := mkF m pc L (.ref adr :: r)) rfl rfl hd
theorem st_put (LK : LinkC P Z a0) (X : Stand p l e R s₀ m args below meth cd T locs cells slots) (hx : p.tables.exec = Jvm.exec) (hZ : Z.Warmed39 s₀.vm) (hown : s₀.vm.findClass P.nm = some m.cls) (hna : n0 ≤ adr) (I : Inv P Z n0 adr mi c s h0 T.heap locs) {x pc : Nat} {w : Value} {ini : Bool} (hini : ini = true → meth.name = "<init>") (hg : pfld P x ini w s = some s')
    (hd : decode cd.code pc = .ok (.putfield x, 3)) {L : Array Slot} {r : List Value} :
    ∃ T' locs', Stand p l e R s₀ m args below meth cd T' locs' cells slots ∧ Inv P Z n0 adr mi c s' h0 T'.heap locs' ∧ ∀ t, Steps p.tables e below (T'.setTop (mkF m (pc + 3) L r)) t → Steps p.tables e below (T.setTop (mkF m pc L (w :: .ref adr :: r))) t := by
  obtain ⟨H, hFr, hK, hS⟩ := I
  obtain ⟨nF, hnF⟩ := LK.1.1
  unfold pfld at hg
  split at hg
  · cases hg
  · rename_i k e1
    split at hg
    · cases hg
    · rename_i fe e2
      split at hg
      · cases hg
      · rename_i e3
        have hL : (Cond.lays P.nm P.nm fe.1 fe.2.1).before a0 Z = true ∨ ((Cond.laysFinal P.nm P.nm fe.1 fe.2.1).before a0 Z = true ∧ P.nm = P.nm ∧ meth.name = "<init>") := by
          have q := LK.2.2.1 k fe e2
          split at q
          · rename_i e4
            refine Or.inr ⟨q, rfl, hini ?_⟩
            cases ini
            · exact absurd ⟨e4, rfl⟩ e3
            · rfl
          · exact Or.inl q
        have hp := LK.2.2.2.1 k fe e2
        have fin : ∀ {T' : State} {h' : Heap} {v' : Value}, Stand p l e R s₀ m args below meth cd T' (locs ++ [⟨adr, RoadKit.slotOf Z P.nm fe.1 fe.2.1⟩]) cells slots → T'.heap = h' → Wr T.heap h' adr (RoadKit.slotOf Z P.nm fe.1 fe.2.1) v' → v' = Fval adr c s' k fe →
            (∀ a b, (a ≠ 0 ∨ b ≠ k) → gI s' a b = gI s a b ∧ gL s' a b = gL s a b) → Inv P Z n0 adr mi c s' h0 T'.heap (locs ++ [⟨adr, RoadKit.slotOf Z P.nm fe.1 fe.2.1⟩]) := fun {T' h' v'} X' e4 W e5 e6 => by
          rw [e4]
          exact ⟨H.putFld LK e2 W e5 e6, Fr.snoc X' hFr hna, hK.wr W (Nat.le_refl _) (by omega), by rw [W.size]; exact hS⟩
        split at hg
        · rename_i z e4
          cases hg
          rw [e4] at hp
          obtain ⟨T', h', X', q1, W, st⟩ := putF X hx hZ hown (host := "") (Or.inl (LK.2.1 _ _ e1 _ e2)) Via.refl rfl (H.2.1 k fe e2) H.1 hL hnF hp (narrow_I z) rfl (g := mkF m pc L (.int z :: .ref adr :: r)) rfl rfl hd
          refine ⟨T', _, X', fin X' q1 W (by simp only [Fval, e4]; simp [gI_sI]) (fun a b hab => ?_), st⟩
          rw [gI_sI, gL_sI, if_neg (by omega)]; exact ⟨rfl, rfl⟩
        · rename_i z e4
          cases hg
          rw [e4] at hp
          obtain ⟨T', h', X', q1, W, st⟩ := putFN X hx hZ hown (LK.2.1 _ _ e1 _ e2) Via.refl rfl (H.2.1 k fe e2) H.1 hL hnF (v' := .int (z &&& 1)) hp rfl (fits_nar_bool z) (g := mkF m pc L (.int z :: .ref adr :: r)) rfl rfl hd
          refine ⟨T', _, X', fin X' q1 W (by simp only [Fval, e4]; simp [gI_sI]) (fun a b hab => ?_), st⟩
          rw [gI_sI, gL_sI, if_neg (by omega)]; exact ⟨rfl, rfl⟩
        · rename_i z e4
          cases hg
          rw [e4] at hp
          obtain ⟨T', h', X', q1, W, st⟩ := putF X hx hZ hown (host := "") (Or.inl (LK.2.1 _ _ e1 _ e2)) Via.refl rfl (H.2.1 k fe e2) H.1 hL hnF hp rfl rfl (g := mkF m pc L (.long z :: .ref adr :: r)) rfl rfl hd
          refine ⟨T', _, X', fin X' q1 W (by simp only [Fval, e4]; simp [gL_sL]) (fun a b hab => ?_), st⟩
          rw [gL_sL, gI_sL, if_neg (by omega)]; exact ⟨rfl, rfl⟩
        · cases hg
theorem lda_spec {tt : Nat} {st st' : List Value} (hl : lda P tt c st s = some st') : ∃ i a r N, st = .int i :: .ref (a + 1) :: r ∧ P.al[a]? = some (tt, N) ∧ a < c ∧ inb N i ∧ st' = elv tt s (a + 1) (ix i) :: r := by
  unfold lda at hl
  split at hl
  · rename_i i a r
    split at hl
    · rename_i t2 N e1
      split at hl
      · rename_i e2
        obtain ⟨rfl, e3⟩ := e2
        split at hl
        · rename_i e4; cases hl; exact ⟨i, a, r, N, rfl, e1, e3, e4, rfl⟩
        · cases hl
      · cases hl
    · cases hl
  · cases hl
theorem va_elv (ρ : Nat → Nat) (tt : Nat) (s : St) (j i : Nat) : va ρ (elv tt s j i) = elv tt s j i := by unfold elv; split <;> rfl
theorem st_lda (X : Stand p l e R s₀ m args below meth cd T locs cells slots) (hx : p.tables.exec = Jvm.exec) (hZ : Z.Warmed39 s₀.vm) (H : HRep P Z T.heap adr c s) {tt pc : Nat} {st st' : List Value} (hl : lda P tt c st s = some st') {i : Instr}
    (hi : (tt = 0 ∧ i = .iaload) ∨ (tt = 1 ∧ i = .baload) ∨ (tt = 2 ∧ i = .laload)) (hd : decode cd.code pc = .ok (i, 1)) {L : Array Slot} :
    ∀ t, Steps p.tables e below (T.setTop (mkF m (pc + 1) L (st'.map (va (adr + ·))))) t → Steps p.tables e below (T.setTop (mkF m pc L (st.map (va (adr + ·))))) t := by
  obtain ⟨j, a, r, N, rfl, e1, e2, e3, rfl⟩ := lda_spec hl
  obtain ⟨cl, A, hN, hv⟩ := H.2.2.1 a tt N e1 e2
  have hin : ¬ (j < 0 ∨ cl.slots.size ≤ j.toNatClampNeg) := by rw [hN]; exact inb_not e3
  have hat : cl.slots[j.toNatClampNeg]? = some (elv tt s (a + 1) (ix j)) := hv (ix j) (inb_ix e3)
  intro t q
  rw [List.map_cons, va_elv] at q
  rcases hi with ⟨rfl, rfl⟩ | ⟨rfl, rfl⟩ | ⟨rfl, rfl⟩
  · exact X.iaload hx A.1 (State.isArrayOf_alike hZ.alike A.2.1) A.2.2 hin hat (g := mkF m pc L (.int j :: .ref (adr + (a + 1)) :: r.map (va (adr + ·)))) rfl rfl hd t q
  · exact X.baloadBooleans hx A.1 (State.isArrayOf_alike hZ.alike A.2.1) A.2.2 hin hat (g := mkF m pc L (.int j :: .ref (adr + (a + 1)) :: r.map (va (adr + ·)))) rfl rfl hd t q
  · exact X.laload hx A.1 (State.isArrayOf_alike hZ.alike A.2.1) A.2.2 hin hat (g := mkF m pc L (.int j :: .ref (adr + (a + 1)) :: r.map (va (adr + ·)))) rfl rfl hd t q
theorem sta_spec {tt : Nat} {st st' : List Value} (hl : sta P tt c st s = some (st', s')) : ∃ v i a N, st = v :: .int i :: .ref (a + 1) :: st' ∧ P.al[a]? = some (tt, N) ∧ a < c ∧ inb N i ∧
    ((tt = 0 ∧ ∃ z, v = .int z ∧ s' = sI s (a + 1) (ix i) z) ∨ (tt = 1 ∧ ∃ z, v = .int z ∧ s' = sI s (a + 1) (ix i) (z &&& 1)) ∨ (tt = 2 ∧ ∃ z, v = .long z ∧ s' = sL s (a + 1) (ix i) z)) := by
  unfold sta at hl
  split at hl
  · rename_i v i a r
    split at hl
    · rename_i t2 N e1
      split at hl
      · rename_i e2
        obtain ⟨rfl, e3⟩ := e2
        split at hl
        · rename_i e4
          split at hl
          · cases hl; exact ⟨_, i, a, N, rfl, e1, e3, e4, Or.inl ⟨rfl, _, rfl, rfl⟩⟩
          · cases hl; exact ⟨_, i, a, N, rfl, e1, e3, e4, Or.inr (Or.inl ⟨rfl, _, rfl, rfl⟩)⟩
          · cases hl; exact ⟨_, i, a, N, rfl, e1, e3, e4, Or.inr (Or.inr ⟨rfl, _, rfl, rfl⟩)⟩
          · cases hl
        · cases hl
      · cases hl
    · cases hl
  · cases hl
theorem st_sta (X : Stand p l e R s₀ m args below meth cd T locs cells slots) (hx : p.tables.exec = Jvm.exec) (hZ : Z.Warmed39 s₀.vm) (hna : n0 ≤ adr) (I : Inv P Z n0 adr mi c s h0 T.heap locs) {tt pc : Nat} {st st' : List Value} (hl : sta P tt c st s = some (st', s')) {i : Instr}
    (hi : (tt = 0 ∧ i = .iastore) ∨ (tt = 1 ∧ i = .bastore) ∨ (tt = 2 ∧ i = .lastore)) (hd : decode cd.code pc = .ok (i, 1)) {L : Array Slot} :
    ∃ T' locs', Stand p l e R s₀ m args below meth cd T' locs' cells slots ∧ Inv P Z n0 adr mi c s' h0 T'.heap locs' ∧ ∀ t, Steps p.tables e below (T'.setTop (mkF m (pc + 1) L (st'.map (va (adr + ·))))) t → Steps p.tables e below (T.setTop (mkF m pc L (st.map (va (adr + ·))))) t := by
  obtain ⟨H, hFr, hK, hS⟩ := I
  obtain ⟨v, j, a, N, rfl, e1, e2, e3, e4⟩ := sta_spec hl
  obtain ⟨cl, A, hN, hv⟩ := H.2.2.1 a tt N e1 e2
  have hin : ¬ (j < 0 ∨ cl.slots.size ≤ j.toNatClampNeg) := by rw [hN]; exact inb_not e3
  have hal := (List.getElem?_eq_some_iff.mp e1).1
  have fin : ∀ {T' : State} {h' : Heap} {v' : Value}, Stand p l e R s₀ m args below meth cd T' (locs ++ [⟨adr + (a + 1), j.toNatClampNeg⟩]) cells slots → T'.heap = h' → Wr T.heap h' (adr + (a + 1)) j.toNatClampNeg v' → v' = elv tt s' (a + 1) (ix j) →
      (∀ x y, (x ≠ a + 1 ∨ y ≠ ix j) → gI s' x y = gI s x y ∧ gL s' x y = gL s x y) → Inv P Z n0 adr mi c s' h0 T'.heap (locs ++ [⟨adr + (a + 1), j.toNatClampNeg⟩]) := fun {T' h' v'} X' q1 W q2 q3 => by
    rw [q1]
    exact ⟨H.putArr e1 e2 (inb_ix e3) W q2 q3, Fr.snoc X' hFr (by omega), hK.wr W (by omega) (by omega), by rw [W.size]; exact hS⟩
  rcases e4 with ⟨rfl, z, rfl, rfl⟩ | ⟨rfl, z, rfl, rfl⟩ | ⟨rfl, z, rfl, rfl⟩
  · obtain ⟨-, rfl⟩ : (0 : Nat) = 0 ∧ i = .iastore := by rcases hi with q | q | q <;> first | exact q | (have := q.1; omega)
    obtain ⟨T', h', X', q1, W, st⟩ := stI X hx hZ rfl A hin (g := mkF m pc L (.int z :: .int j :: .ref (adr + (a + 1)) :: st'.map (va (adr + ·)))) rfl rfl hd
    refine ⟨T', _, X', fin X' q1 W (by simp [elv, gI_sI, ix]) (fun x y hxy => ?_), st⟩
    rw [gI_sI, gL_sI, if_neg (fun q => hxy.elim (fun z => z q.1) (fun z => z q.2))]; exact ⟨rfl, rfl⟩
  · obtain ⟨-, rfl⟩ : (1 : Nat) = 1 ∧ i = .bastore := by rcases hi with q | q | q <;> first | exact q | (have := q.1; omega)
    obtain ⟨T', h', X', q1, W, st⟩ := stZ X hx hZ rfl A hin (g := mkF m pc L (.int z :: .int j :: .ref (adr + (a + 1)) :: st'.map (va (adr + ·)))) rfl rfl hd
    refine ⟨T', _, X', fin X' q1 W (by simp [elv, gI_sI, ix, nar]) (fun x y hxy => ?_), st⟩
    rw [gI_sI, gL_sI, if_neg (fun q => hxy.elim (fun z => z q.1) (fun z => z q.2))]; exact ⟨rfl, rfl⟩
  · obtain ⟨-, rfl⟩ : (2 : Nat) = 2 ∧ i = .lastore := by rcases hi with q | q | q <;> first | exact q | (have := q.1; omega)
    obtain ⟨T', h', X', q1, W, st⟩ := stJ X hx hZ rfl A hin (g := mkF m pc L (.long z :: .int j :: .ref (adr + (a + 1)) :: st'.map (va (adr + ·)))) rfl rfl hd
    refine ⟨T', _, X', fin X' q1 W (by simp [elv, gL_sL, ix]) (fun x y hxy => ?_), st⟩
    rw [gL_sL, gI_sL, if_neg (fun q => hxy.elim (fun z => z q.1) (fun z => z q.2))]; exact ⟨rfl, rfl⟩
theorem newF_spec {t : ArrayType} {code : Cd} {pc : Nat} {st : List Value} (h : newF P t code pc c st = true) : ∃ n x k fe tt N, st = [.int n, .ref 0] ∧ fetch code (pc + 2) = some (.putfield x, 3) ∧ asc P.fx x = some k ∧ asc P.fs k = some fe ∧ P.al[c]? = some (tt, N) ∧
    fe.2.2.1 = c + 3 ∧ t = atOf tt ∧ 0 ≤ n.toInt ∧ n.toInt = N ∧ N < 1000000 := by
  unfold newF at h
  split at h
  · rename_i n
    split at h
    · rename_i x e1
      split at h
      · rename_i k e2
        split at h
        · rename_i fe e3
          split at h
          · rename_i tt N e4
            obtain ⟨q1, q2, q3, q4, q5⟩ := of_decide_eq_true h
            exact ⟨n, x, k, fe, tt, N, rfl, e1, e2, e3, e4, q1, q2, q3, q4, q5⟩
          · cases h
        · cases h
      · cases h
    · cases h
  · cases h
theorem ty_at {tt : Nat} (h : tt ≤ 2) : newarray.typeOf (atOf tt) = tyOf tt := by
  have : tt = 0 ∨ tt = 1 ∨ tt = 2 := by omega
  rcases this with rfl | rfl | rfl <;> rfl
theorem st_new (LK : LinkC P Z a0) {me : Me} (hme : asc P.ms 0 = some me) (hnm : meth.name = me.nm) (X : Stand p l e (cRoom P 0 me) s₀ m args below meth cd T locs (co 0 c) (zo P 0 c)) (hx : p.tables.exec = Jvm.exec) (hZ : Z.Warmed39 s₀.vm) (hown : s₀.vm.findClass P.nm = some m.cls) (hna : n0 ≤ adr) (hs0 : s₀.heap.size = adr + 1) (I : Inv P Z n0 adr 0 c s h0 T.heap locs)
    (hdec : ∀ pc i n, fetch me.cd pc = some (i, n) → decode cd.code pc = .ok (i, n) ∧ (isSw i = true ∨ n = ilen i)) {t : ArrayType} {pc : Nat} {st : List Value} (h : newF P t me.cd pc c st = true) (hd : decode cd.code pc = .ok (.newarray t, 2)) {L : Array Slot} :
    ∃ T' locs', Stand p l e (cRoom P 0 me) s₀ m args below meth cd T' locs' (co 0 (c + 1)) (zo P 0 (c + 1)) ∧ Inv P Z n0 adr 0 (c + 1) s h0 T'.heap locs' ∧ ∀ t, Steps p.tables e below (T'.setTop (mkF m (pc + 5) L [])) t → Steps p.tables e below (T.setTop (mkF m pc L (st.map (va (adr + ·))))) t := by
  obtain ⟨H, hFr, hK, hS⟩ := I
  obtain ⟨nF, hnF⟩ := LK.1.1
  obtain ⟨n, x, k, fe, tt, N, rfl, e1, e2, e3, e4, e5, rfl, e6, e7, e8⟩ := newF_spec h
  obtain ⟨htt, hac⟩ := LK.2.2.2.2.2.1 _ _ _ e4
  have hal := (List.getElem?_eq_some_iff.mp e4).1
  have hS' : T.heap.size = adr + 1 + c := hS
  have hty := ty_at htt
  have hini : meth.name = "<init>" := by rw [hnm]; exact LK.2.2.2.2.2.2.2.2.2.2.2.2 me hme
  have hLy : (Cond.lays P.nm P.nm fe.1 fe.2.1).before a0 Z = true ∨ ((Cond.laysFinal P.nm P.nm fe.1 fe.2.1).before a0 Z = true ∧ P.nm = P.nm ∧ meth.name = "<init>") := by
    have q := LK.2.2.1 k fe e3
    split at q
    · exact Or.inr ⟨q, rfl, hini⟩
    · exact Or.inl q
  have hzc := zs_succ P.al e4
  have hzm := zs_le P.al (c + 1)
  obtain ⟨T1, hp1, cA, X1, q1, E, A, st1⟩ := newP X hx hZ (aty := atOf tt) (by rw [hty]; exact hac) rfl (g := mkF m pc L [.int n, .ref adr]) rfl hd rfl (by rw [Int32.lt_iff_toInt_lt]; simp only [Int32.reduceToInt]; omega) (cap := N)
    (by simp only [Int32.toNatClampNeg]; omega) (by omega) (by simp only [co, cRoom, if_true]; omega) (by simp only [zo, cRoom, if_true]; omega)
  rw [hty] at A
  have hp := LK.2.2.2.1 k fe e3
  rw [e5] at hp
  obtain ⟨d2, -⟩ := hdec _ _ _ e1
  have hsz1 : hp1.size = adr + 1 + (c + 1) := by
    have hh : T1.heap.size ≤ s₀.heap.size + (c + 1) := X1.heapSize
    have g2 : T.heap.size < Array.size hp1 := A.lt
    rw [q1, hs0] at hh
    rw [hS'] at g2
    omega
  obtain ⟨T2, hp2, X2, q2, W, st2⟩ := putF X1 hx hZ hown (host := "") (Or.inl (LK.2.1 _ _ e2 _ e3)) Via.refl q1 ((H.2.1 k fe e3).ext E) (H.1.ext E) hLy hnF (v := .ref T.heap.size) hp rfl rfl (g := mkF m (pc + 2) L [.ref T.heap.size, .ref adr]) rfl rfl d2
  refine ⟨T2, _, by simpa [co, zo, hzc] using X2, ?_, fun t q => st1 _ (st2 _ q)⟩
  rw [q2]
  refine ⟨H.newArr LK e3 e5 e4 e6 e7 hS' E A W, Fr.snoc X2 hFr hna, ?_, by rw [W.size, hsz1]; simp⟩
  exact (hK.ext E (by rw [hsz1]; omega) (by omega)).wr W (Nat.le_refl _) (by omega)
end Steps
end Jvm.LM

namespace Jvm.LM
open Sem ClassFile Op Lib Jvm.Stand Jvm.Free Jvm.LawKit Jvm.RoadKit
theorem cret_spec {me : Me} {st : List Value} {i : Instr} {v : Option Value} (h : cret me st i = some v) :
    (∃ x, i = .ireturn ∧ st = [.int x] ∧ ((me.rt = 1 ∧ v = some (.int x)) ∨ (me.rt = 2 ∧ v = some (.int (x &&& 1))))) ∨ (∃ x, i = .lreturn ∧ st = [.long x] ∧ me.rt = 3 ∧ v = some (.long x)) ∨ (i = .return_ ∧ st = [] ∧ me.rt = 0 ∧ v = none) := by
  unfold cret at h
  split at h
  · split at h
    · rename_i x
      split at h
      · rename_i e1; cases h; exact Or.inl ⟨x, rfl, rfl, Or.inl ⟨e1, rfl⟩⟩
      · split at h
        · rename_i e1; cases h; exact Or.inl ⟨x, rfl, rfl, Or.inr ⟨e1, rfl⟩⟩
        · cases h
    · cases h
  · split at h
    · rename_i x
      split at h
      · rename_i e1; cases h; exact Or.inr (Or.inl ⟨x, rfl, rfl, e1, rfl⟩)
      · cases h
    · cases h
  · split at h
    · split at h
      · rename_i e1; cases h; exact Or.inr (Or.inr ⟨rfl, rfl, e1, rfl⟩)
      · cases h
    · cases h
  · cases h
section Ret
variable {p : Program} {l : Launch} {e : Env} {R : Room} {s₀ : State} {m : MethodId} {args : Array Value} {below : List Frame} {meth : Method} {cd : Code} {T : State} {locs : List Loc} {cells slots : Nat}
theorem retI' (X : Stand p l e R s₀ m args below meth cd T locs cells slots) (hx : p.tables.exec = Jvm.exec) {pc : Nat} {Ls : Array Slot} {z : Int32} {rest : List Value} (hret : meth.sig.returnType = some .int) (hd : decode cd.code pc = .ok (.ireturn, 1)) {fs : List Frame}
    (hl : ∀ (f : JFrame) (acts : List Action), f.method = m → f.locked = none → f.entered = [] → (doReturn e (T.setTop f) acts (some (.int z))).1 = T.setFrames fs) : Steps p.tables e below (T.setTop (mkF m pc Ls (.int z :: rest))) (T.setFrames fs) :=
  retOut X hx (t := .int) (i := .ireturn) hret rfl (Or.inl ⟨rfl, Or.inl rfl, z, rfl⟩) hd hl
theorem st_ret (X : Stand p l e R s₀ m args below meth cd T locs cells slots) (hx : p.tables.exec = Jvm.exec) {me : Me} (hret : meth.sig.returnType = retOf me.rt) (hlk : meth.locks = false) {ρ : Nat → Nat} {st : List Value} {i : Instr} {v : Option Value} (h : cret me st i = some v) {pc n : Nat} (hd : decode cd.code pc = .ok (i, n)) (hn : isSw i = true ∨ n = ilen i)
    {Q : Option Value → Heap → List Loc → Prop} (hQ : Q v T.heap locs) (hc : cells ≤ R.cells) (hs : slots ≤ R.slots) {L : Array Slot} : Don p e below s₀ R Q (T.setTop (mkF m pc L (st.map (va ρ)))) := by
  rcases cret_spec h with ⟨x, rfl, rfl, h1⟩ | ⟨x, rfl, rfl, h1, rfl⟩ | ⟨rfl, rfl, h1, rfl⟩
  · obtain rfl := hn.resolve_left Bool.false_ne_true
    rcases h1 with ⟨h1, rfl⟩ | ⟨h1, rfl⟩
    · rw [h1] at hret
      obtain ⟨fs, hr, hrun, hended, hW, hsame⟩ := X.leave (v := some (.int x)) (fun q => by rw [hret] at q; cases q) hlk
      exact ⟨_, _, retI' X hx hret hd hr, hrun, hended, _, _, rfl, hQ, ⟨_, rfl⟩, hW, hsame.mono hc hs⟩
    · rw [h1] at hret
      obtain ⟨fs, hr, hrun, hended, hW, hsame⟩ := X.leave (v := some (.int (x &&& 1))) (fun q => by rw [hret] at q; cases q) hlk
      exact ⟨_, _, retN X hx (t := .boolean) hret (Or.inl rfl) hd hr, hrun, hended, _, _, rfl, hQ, ⟨_, rfl⟩, hW, hsame.mono hc hs⟩
  · obtain rfl := hn.resolve_left Bool.false_ne_true
    rw [h1] at hret
    obtain ⟨fs, hr, hrun, hended, hW, hsame⟩ := X.leave (v := some (.long x)) (fun q => by rw [hret] at q; cases q) hlk
    exact ⟨_, _, retOut X hx (t := .long) (i := .lreturn) hret rfl (Or.inr (Or.inl ⟨rfl, rfl, x, rfl⟩)) hd hr, hrun, hended, _, _, rfl, hQ, ⟨_, rfl⟩, hW, hsame.mono hc hs⟩
  · obtain rfl := hn.resolve_left Bool.false_ne_true
    rw [h1] at hret
    obtain ⟨fs, hr, hrun, hended, hW, hsame⟩ := X.leave (v := none) (fun _ => rfl) hlk
    exact ⟨_, _, X.returnOut hx hret hd hr, hrun, hended, _, _, rfl, hQ, ⟨_, rfl⟩, hW, hsame.mono hc hs⟩
end Ret
theorem cret_va {me : Me} {st : List Value} {i : Instr} {v : Option Value} (h : cret me st i = some v) (ρ : Nat → Nat) : v.toList.map (va ρ) = v.toList := by
  rcases cret_spec h with ⟨x, rfl, rfl, ⟨-, rfl⟩ | ⟨-, rfl⟩⟩ | ⟨x, rfl, rfl, -, rfl⟩ | ⟨rfl, rfl, -, rfl⟩ <;> rfl
theorem nd_rev {ρ : Nat → Nat} {as : List Value} (h : nd as = true) : ∀ v ∈ (Value.ref 0 :: as.reverse), ∀ x, v ≠ .double x := fun v hv x e => by
  rcases List.mem_cons.mp hv with q | q
  · subst q; cases e
  · exact nd_spec h v (List.mem_reverse.mp q) x e
theorem pfld_va {P : Cl} {x : Nat} {ini : Bool} {w : Value} {s s1 : St} (hg : pfld P x ini w s = some s1) (ρ : Nat → Nat) : va ρ w = w := by
  cases w <;> first | rfl | skip
  exfalso
  unfold pfld at hg
  split at hg
  · cases hg
  · split at hg
    · cases hg
    · split at hg
      · cases hg
      · split at hg
        · rename_i q; cases q
        · rename_i q; cases q
        · rename_i q; cases q
        · cases hg
theorem cwalk {P : Cl} {Z : State} {a0 : Array Value} (LK : LinkC P Z a0) {n0 adr : Nat} (hna : n0 ≤ adr) : ∀ f mi me, asc P.ms mi = some me → CW P Z n0 adr f mi me := by
  intro f
  induction f with
  | zero =>
    intro mi me hme p l e s₀ m args below meth cd T locs h0 c pc ls st s v s' L hx hZ hown hnm hret hml hlk hs0 hdec hr
    cases hr
  | succ f ih =>
    intro mi me hme p l e s₀ m args below meth cd T locs h0 c pc ls st s v s' L hx hZ hown hnm hret hml hlk hs0 hdec hr X I hL hlen
    simp only [cexec] at hr
    split at hr
    · cases hr
    · rename_i i n hf
      obtain ⟨hd, hn⟩ := hdec pc i n hf
      have ihk := ih mi me hme
      have hsize : L.size = cd.maxLocals := by rw [hL.1, hlen, hml]
      obtain ⟨nF, hnF⟩ := LK.1.1
      unfold cstep at hr
      split at hr
      -- getfield
      · obtain rfl := hn.resolve_left Bool.false_ne_true
        split at hr
        · rename_i r
          split at hr
          · rename_i w hg
            obtain ⟨T', X', q1, st⟩ := st_get LK X hx hZ hown I.1 hg hd (L := L) (r := r.map (va (adr + ·)))
            exact Don.step st (ihk p l e s₀ m args below meth cd T' locs h0 c _ ls (w :: r) s v s' L hx hZ hown hnm hret hml hlk hs0 hdec hr X' (by rw [q1]; exact I) hL hlen)
          · cases hr
        · cases hr
      -- putfield
      · obtain rfl := hn.resolve_left Bool.false_ne_true
        split at hr
        · rename_i w r
          split at hr
          · rename_i s1 hg
            have hini : (mi == 0) = true → meth.name = "<init>" := fun q => by
              have q : mi = 0 := by simpa using q
              subst q; rw [hnm]; exact LK.2.2.2.2.2.2.2.2.2.2.2.2 me hme
            have hw : va (adr + ·) w = w := pfld_va hg _
            obtain ⟨T', locs', X', I', st⟩ := st_put LK X hx hZ hown hna I hini hg hd (L := L) (r := r.map (va (adr + ·)))
            refine Don.step (fun t q => ?_) (ihk p l e s₀ m args below meth cd T' locs' h0 c _ ls r s1 v s' L hx hZ hown hnm hret hml hlk hs0 hdec hr X' I' hL hlen)
            have := st t q
            rw [List.map_cons, hw]; exact this
          · cases hr
        · cases hr
      -- loads of arrays
      · obtain rfl := hn.resolve_left Bool.false_ne_true
        split at hr
        · rename_i st' hg
          exact Don.step (st_lda X hx hZ I.1 hg (Or.inl ⟨rfl, rfl⟩) hd) (ihk p l e s₀ m args below meth cd T locs h0 c _ ls st' s v s' L hx hZ hown hnm hret hml hlk hs0 hdec hr X I hL hlen)
        · cases hr
      · obtain rfl := hn.resolve_left Bool.false_ne_true
        split at hr
        · rename_i st' hg
          exact Don.step (st_lda X hx hZ I.1 hg (Or.inr (Or.inl ⟨rfl, rfl⟩)) hd) (ihk p l e s₀ m args below meth cd T locs h0 c _ ls st' s v s' L hx hZ hown hnm hret hml hlk hs0 hdec hr X I hL hlen)
        · cases hr
      · obtain rfl := hn.resolve_left Bool.false_ne_true
        split at hr
        · rename_i st' hg
          exact Don.step (st_lda X hx hZ I.1 hg (Or.inr (Or.inr ⟨rfl, rfl⟩)) hd) (ihk p l e s₀ m args below meth cd T locs h0 c _ ls st' s v s' L hx hZ hown hnm hret hml hlk hs0 hdec hr X I hL hlen)
        · cases hr
      -- stores into arrays
      · obtain rfl := hn.resolve_left Bool.false_ne_true
        split at hr
        · rename_i st' s1 hg
          obtain ⟨T', locs', X', I', st⟩ := st_sta X hx hZ hna I hg (Or.inl ⟨rfl, rfl⟩) hd (L := L)
          exact Don.step st (ihk p l e s₀ m args below meth cd T' locs' h0 c _ ls st' s1 v s' L hx hZ hown hnm hret hml hlk hs0 hdec hr X' I' hL hlen)
        · cases hr
      · obtain rfl := hn.resolve_left Bool.false_ne_true
        split at hr
        · rename_i st' s1 hg
          obtain ⟨T', locs', X', I', st⟩ := st_sta X hx hZ hna I hg (Or.inr (Or.inl ⟨rfl, rfl⟩)) hd (L := L)
          exact Don.step st (ihk p l e s₀ m args below meth cd T' locs' h0 c _ ls st' s1 v s' L hx hZ hown hnm hret hml hlk hs0 hdec hr X' I' hL hlen)
        · cases hr
      · obtain rfl := hn.resolve_left Bool.false_ne_true
        split at hr
        · rename_i st' s1 hg
          obtain ⟨T', locs', X', I', st⟩ := st_sta X hx hZ hna I hg (Or.inr (Or.inr ⟨rfl, rfl⟩)) hd (L := L)
          exact Don.step st (ihk p l e s₀ m args below meth cd T' locs' h0 c _ ls st' s1 v s' L hx hZ hown hnm hret hml hlk hs0 hdec hr X' I' hL hlen)
        · cases hr
      -- newarray and putfield
      · obtain rfl := hn.resolve_left Bool.false_ne_true
        split at hr
        · rename_i hg
          obtain ⟨rfl, hg⟩ := hg
          obtain ⟨T', locs', X', I', st⟩ := st_new LK hme hnm X hx hZ hown hna (hs0 rfl) I hdec hg hd (L := L)
          exact Don.step st (ihk p l e s₀ m args below meth cd T' locs' h0 (c + 1) _ ls [] s v s' L hx hZ hown hnm hret hml hlk hs0 hdec hr X' I' hL hlen)
        · cases hr
      -- constants
      · obtain rfl := hn.resolve_left Bool.false_ne_true
        split at hr
        · rename_i z hg
          exact Don.step (fun t q => X.ldcI hx hown (mv hZ (LK.2.2.2.2.2.2.1 _ _ hg)) (g := mkF m pc L (st.map (va (adr + ·)))) rfl hd q) (ihk p l e s₀ m args below meth cd T locs h0 c _ ls (.int z :: st) s v s' L hx hZ hown hnm hret hml hlk hs0 hdec hr X I hL hlen)
        · cases hr
      · obtain rfl := hn.resolve_left Bool.false_ne_true
        split at hr
        · rename_i z hg
          exact Don.step (fun t q => X.ldc2J hx hown (mv hZ (LK.2.2.2.2.2.2.1 _ _ hg)) (g := mkF m pc L (st.map (va (adr + ·)))) rfl hd q) (ihk p l e s₀ m args below meth cd T locs h0 c _ ls (.long z :: st) s v s' L hx hZ hown hnm hret hml hlk hs0 hdec hr X I hL hlen)
        · cases hr
      -- Object's constructor
      · obtain rfl := hn.resolve_left Bool.false_ne_true
        split at hr
        · rename_i r
          split at hr
          · rename_i hg
            obtain ⟨rfl, hg1, hg2⟩ := hg
            obtain ⟨w1, w2, w3⟩ := LK.2.2.2.2.2.2.2.1
            obtain ⟨T', X', q1, st⟩ := initO X hx hZ hown w1 w2 w3 rfl (g := mkF m pc L (.ref adr :: r.map (va (adr + ·)))) rfl hsize rfl hd hg1 (W := cats r) (by show 2 * 0 + _ ≤ _; rw [cats_va]; omega) hg2
            exact Don.step st (ihk p l e s₀ m args below meth cd T' locs h0 c _ ls r s v s' L hx hZ hown hnm hret hml hlk hs0 hdec hr X' (by rw [q1]; exact I) hL hlen)
          · cases hr
        · cases hr
      -- a call
      · obtain rfl := hn.resolve_left Bool.false_ne_true
        split at hr
        · cases hr
        · rename_i m' hm'
          split at hr
          · cases hr
          · rename_i me' hme'
            split at hr
            · rename_i r hst
              split at hr
              · rename_i hg
                obtain ⟨hg0, hg1, hg2, hg3⟩ := hg
                dsimp only at hr
                rw [hme'] at hr
                dsimp only at hr
                obtain ⟨bytes, ps, hcode, hdec', hpar, hpl⟩ := LK.2.2.2.2.2.2.2.2.1 m' me' hme'
                obtain ⟨w1, w2, w3⟩ := LK.2.2.2.2.2.2.2.2.2.1 _ _ hm' _ hme'
                by_cases hla : (layA (Value.ref 0 :: (st.take me'.na).reverse)).length ≤ me'.ml
                · rw [if_pos hla] at hr
                  cases hcl : cexec P f m' me' c 0 (lay (.ref 0 :: (st.take me'.na).reverse) me'.ml) [] s with
                  | none => rw [hcl] at hr; cases hr
                  | some vs =>
                    obtain ⟨w, s1⟩ := vs
                    rw [hcl] at hr
                    have hr' : cexec P f mi me c (pc + 3) ls (w.toList ++ r) s1 = some (v, s') := by cases w <;> exact hr
                    have hM := met_of_CW LK hme' (ih m' me' hme') l hdec' (as := .ref 0 :: (st.take me'.na).reverse) (nd_rev (ρ := id) hg3) hla hcl (fun q => absurd q hg0) I.1 (fun q => absurd q hg0)
                    have hB := backOf (R := cRoom P mi me) (p := p) (e := e) (below := below) (s := s₀) (args := args) (len := 3) (W := cats r) hM hZ hcode LK.1.2 hg1 hg2
                    have hdl : me'.na < st.length := by
                      have := congrArg List.length hst
                      simp at this; omega
                    have hsp : st = st.take me'.na ++ .ref 0 :: r := by rw [← hst, List.take_append_drop]
                    have hcell := I.1.1.cell
                    obtain ⟨cel, hc1, hc2⟩ := hcell
                    have key : ∃ (v' : Option Value) (U : State) (Lc : List Loc), Stand p l e (cRoom P mi me) s₀ m args below meth cd U (locs ++ Lc) (co mi c) (zo P mi c) ∧ QC P Z n0 adr m' c w s1 T.heap v' U.heap Lc ∧
                        Steps p.tables e below (T.setTop (mkF m pc L (st.map (va (adr + ·))))) (U.setTop (mkF m (pc + 3) L (v'.toList ++ r.map (va (adr + ·))))) := by
                      have hsm : st.map (va (adr + ·)) = ((st.take me'.na).reverse.map (va (adr + ·))).reverse ++ .ref adr :: r.map (va (adr + ·)) := by
                        conv => lhs; rw [hsp]
                        simp [va]
                      have hll : ∀ sig, parseMethodDescriptor (yOf P me').desc = some sig → ((st.take me'.na).reverse.map (va (adr + ·))).length = sig.parameters.length := lenOf hpar (by simp [hpl]; omega)
                      have hpre : ∀ vm₁, s₀.WarmedH vm₁ → ((Value.ref adr :: (st.take me'.na).reverse.map (va (adr + ·))).toArray = ((Value.ref 0 :: (st.take me'.na).reverse).map (va (adr + ·))).toArray ∧ (T.setVm vm₁).heap = T.heap ∧ co mi c + (cRoom P m' me').cells ≤ (cRoom P mi me).cells ∧ zo P mi c + (cRoom P m' me').slots ≤ (cRoom P mi me).slots) := fun vm₁ _ => by
                        refine ⟨by simp [va], rfl, ?_, ?_⟩
                        · simp only [co, cRoom, if_neg hg0]
                          have := I.1.2.2.2.2
                          split <;> omega
                        · simp only [zo, cRoom, if_neg hg0]
                          have := zs_le P.al c
                          split <;> omega
                      have hz1 : (cRoom P m' me').cells = 0 := by simp [cRoom, hg0]
                      have hz2 : (cRoom P m' me').slots = 0 := by simp [cRoom, hg0]
                      rcases w3 with w3 | ⟨w3, w4⟩
                      · obtain ⟨v', vm₁, ⟨U, lo, ce, sl⟩, -, X', ⟨Lc, hQ, l1, l2, l3⟩, stp⟩ := privCall X hx (y := yOf P me') hown (mv hZ w1) (mv hZ w2) (nF := nF) (mv hZ hnF) (Cond.privateMethod_at (mvP hZ w3 (args := args))) (mv hZ hcode) LK.2.2.2.2.2.2.2.2.2.2.2.1 hB (g := mkF m pc L (st.map (va (adr + ·)))) rfl hsize hc1 hc2 hll hsm (by show 2 * 0 + _ ≤ _; rw [cats_va]; omega) hd hpre
                        dsimp only [Pt.U, Pt.locs, Pt.cells, Pt.slots] at X' hQ l1 l2 l3 stp
                        subst l1 l2 l3
                        rw [hz1, hz2] at X'
                        exact ⟨v', U, Lc, X', hQ, stp⟩
                      · obtain ⟨cq, kq, qa, qb, qc⟩ := isOf hZ rfl I.1.1
                        obtain ⟨v', vm₁, ⟨U, lo, ce, sl⟩, -, X', ⟨Lc, hQ, l1, l2, l3⟩, stp⟩ := X.virtualBack hx (y := yOf P me') (z := yOf P me') hown (mv hZ w1) (mv hZ w3) (notFace_of_selects (args := #[]) (mv hZ w4)) (mv hZ w4) (mv hZ w2) LK.2.2.2.2.2.2.2.2.2.2.2.1 hB qa qc (g := mkF m pc L (st.map (va (adr + ·)))) rfl hsize (Steps.refl _) hll hsm (by show 2 * 0 + _ ≤ _; rw [cats_va]; omega) hd hpre
                        dsimp only [Pt.U, Pt.locs, Pt.cells, Pt.slots] at X' hQ l1 l2 l3 stp
                        subst l1 l2 l3
                        rw [hz1, hz2] at X'
                        exact ⟨v', U, Lc, X', hQ, stp⟩
                    obtain ⟨v', U, Lc, X', ⟨⟨rfl, hva⟩, hF', hH', hK', hS'⟩, stp⟩ := key
                    rw [if_neg hg0] at hH' hS'
                    refine Don.step (fun t q => stp.trans ?_) (ihk p l e s₀ m args below meth cd U (locs ++ Lc) h0 c _ ls (v'.toList ++ r) s1 v s' L hx hZ hown hnm hret hml hlk hs0 hdec hr' X' ⟨hH', I.2.1.app hF', I.2.2.1.trans hK', by rw [hS']; exact I.2.2.2⟩ hL hlen)
                    rw [List.map_append, hva] at q; exact q
                · rw [if_neg hla] at hr; cases hr
              · cases hr
            · cases hr
      -- the rest
      · split at hr
        · split at hr
          · cases hr
          · rename_i h1 hcf
            split at hr
            · rename_i w hw
              cases hr
              have hcf' : mi = 0 → c = P.al.length := fun q => Classical.byContradiction fun z => hcf ⟨q, z⟩
              have hA : HRep P Z T.heap adr (if mi = 0 then P.al.length else c) s := by
                by_cases q : mi = 0
                · rw [if_pos q, ← hcf' q]; exact I.1
                · rw [if_neg q]; exact I.1
              have hB : Array.size T.heap = if mi = 0 then adr + 1 + P.al.length else Array.size h0 := by
                rw [I.2.2.2]
                by_cases q : mi = 0
                · rw [if_pos q, if_pos q, ← hcf' q]
                · rw [if_neg q, if_neg q]
              have hC : co mi c ≤ (cRoom P mi me).cells := by
                simp only [co, cRoom]
                by_cases q : mi = 0
                · rw [if_pos q, if_pos q, ← hcf' q]; exact Nat.le_refl _
                · rw [if_neg q, if_neg q]; exact Nat.le_refl _
              have hD : zo P mi c ≤ (cRoom P mi me).slots := by
                simp only [zo, cRoom]
                by_cases q : mi = 0
                · rw [if_pos q, if_pos q]; exact zs_le _ _
                · rw [if_neg q, if_neg q]; exact Nat.le_refl _
              exact st_ret X hx hret hlk hw hd hn ⟨⟨rfl, cret_va hw⟩, I.2.1, hA, I.2.2.1, hB⟩ hC hD
            · cases hr
        · split at hr
          · rename_i pc' ls' st' hp
            obtain ⟨L', hL', hLs, st⟩ := pstep_sound X hx hp hd hn hL
            have hlen' : ls'.length = me.ml := by rw [← hL'.1, hLs, hL.1]; exact hlen
            exact Don.step st (ihk p l e s₀ m args below meth cd T locs h0 c _ ls' st' s v s' L' hx hZ hown hnm hret hml hlk hs0 hdec hr X I hL' hlen')
          · cases hr
end Jvm.LM

namespace Jvm.LM
open Sem ClassFile Op Lib Jvm.Stand Jvm.Free Jvm.LawKit Jvm.RoadKit
/-! the law's machine: several objects of the class, and one array of ints that it only reads -/
/-- class name, pool to own static method, pool to the class's method, pool index of the constructor, of the class, number of its fields, constants, methods, room: cells, slots -/
abbrev Lw := String × List (Nat × Nat) × List (Nat × Nat) × Nat × Nat × Nat × List (Nat × Value) × List (Nat × Me) × Nat × Nat
def Lw.nm (Q : Lw) : String := Q.1
def Lw.sx (Q : Lw) : List (Nat × Nat) := Q.2.1
def Lw.vx (Q : Lw) : List (Nat × Nat) := Q.2.2.1
def Lw.ci (Q : Lw) : Nat := Q.2.2.2.1
def Lw.cx (Q : Lw) : Nat := Q.2.2.2.2.1
def Lw.nf (Q : Lw) : Nat := Q.2.2.2.2.2.1
def Lw.kx (Q : Lw) : List (Nat × Value) := Q.2.2.2.2.2.2.1
def Lw.ms (Q : Lw) : List (Nat × Me) := Q.2.2.2.2.2.2.2.1
def Lw.rc (Q : Lw) : Nat := Q.2.2.2.2.2.2.2.2.1
def Lw.rs (Q : Lw) : Nat := Q.2.2.2.2.2.2.2.2.2
/-- the objects, how many are made, whether one more is being made -/
abbrev Wd := (Nat → St) × Nat × Bool
abbrev Sc := Option (Nat × (Nat → Int32))
abbrev Rw := Option (Option Value × Wd)
def nr : List Value → Bool
  | [] => true
  | .int _ :: r => nr r
  | .long _ :: r => nr r
  | _ => false
theorem nr_map {l : List Value} (h : nr l = true) (ρ : Nat → Nat) : l.map (va ρ) = l := by
  induction l with
  | nil => rfl
  | cons v r ih => cases v <;> first | (simp only [nr] at h; simp [va, ih h]; done) | (simp [nr] at h)
theorem nr_nd {l : List Value} (h : nr l = true) : nd l = true := by
  induction l with
  | nil => rfl
  | cons v r ih => cases v <;> first | (simp only [nr] at h; simp [nd, ih h]; done) | (simp [nr] at h)
def uo (w : Nat → St) (o : Nat) (s : St) : Nat → St := fun i => if i = o then s else w i
def lstep {α : Type} (P : Cl) (Q : Lw) (sc : Sc) (mi : Nat) (me : Me) (rt : Option Value → Wd → Option α) (cc : Nat → Nat → List Value → St → Rs) (cl : Nat → List Value → Wd → Rw) (k : Nat → Lv → List Value → Wd → Option α) (i : Instr) (pc : Nat) (ls : Lv) (st : List Value) (w : Wd) : Option α :=
  match i with
  | .iaload => match sc, st with
    | some (n, g), .int j :: .ref 0 :: r => if inb n j then k (pc + 1) ls (.int (g (ix j)) :: r) w else none
    | _, _ => none
  | .arraylength => match sc, st with
    | some (n, _), .ref 0 :: r => k (pc + 1) ls (.int (Int32.ofNat n) :: r) w
    | _, _ => none
  | .ldc x => match asc Q.kx x with | some (.int z) => k (pc + 2) ls (.int z :: st) w | _ => none
  | .ldc2_w x => match asc Q.kx x with | some (.long z) => k (pc + 3) ls (.long z :: st) w | _ => none
  | .new x => if mi = 0 ∧ x = Q.cx ∧ w.2.2 = false ∧ (w.2.1 + 1) * (P.al.length + 1) ≤ Q.rc ∧ (w.2.1 + 1) * (Q.nf + zs P.al P.al.length) ≤ Q.rs then
      k (pc + 3) ls (.ref (w.2.1 + 1) :: st) (uo w.1 w.2.1 s0, w.2.1, true) else none
  | .invokespecial x => match asc P.ms 0 with
    | none => none
    | some me' => match st.drop me'.na with
      | .ref (o + 1) :: r => if x = Q.ci ∧ mi = 0 ∧ o = w.2.1 ∧ w.2.2 = true ∧ me'.rf + 1 ≤ me.rf ∧ cats r + (me'.ml + 11) + me'.rl ≤ me.rl ∧ nr (st.take me'.na) = true ∧ (w.2.1 + 1) * (P.al.length + 1) ≤ Q.rc ∧ (w.2.1 + 1) * (Q.nf + zs P.al P.al.length) ≤ Q.rs then
          (match cc 0 0 (.ref 0 :: (st.take me'.na).reverse) (w.1 o) with
           | some (none, s') => k (pc + 3) ls r (uo w.1 o s', w.2.1 + 1, false)
           | _ => none) else none
      | _ => none
  | .invokevirtual x => match asc Q.vx x with
    | none => none
    | some m' => match asc P.ms m' with
      | none => none
      | some me' => match st.drop me'.na with
        | .ref (o + 1) :: r => if m' ≠ 0 ∧ o < w.2.1 ∧ me'.rf + 1 ≤ me.rf ∧ cats r + (me'.ml + 11) + me'.rl ≤ me.rl ∧ nr (st.take me'.na) = true then
            (match cc m' P.al.length (.ref 0 :: (st.take me'.na).reverse) (w.1 o) with
             | some (none, s') => k (pc + 3) ls r (uo w.1 o s', w.2.1, w.2.2)
             | some (some v, s') => k (pc + 3) ls (v :: r) (uo w.1 o s', w.2.1, w.2.2)
             | none => none) else none
        | _ => none
  | .invokestatic x => match asc Q.sx x with
    | none => none
    | some m' => match asc Q.ms m' with
      | none => none
      | some me' => if m' ≠ 0 ∧ me'.na ≤ st.length ∧ me'.rf + 1 ≤ me.rf ∧ cats (st.drop me'.na) + (me'.ml + 11) + me'.rl ≤ me.rl ∧ nd (st.take me'.na) = true then
          (match cl m' (st.take me'.na).reverse w with
           | some (none, w') => k (pc + 3) ls (st.drop me'.na) w'
           | some (some v, w') => k (pc + 3) ls (v :: st.drop me'.na) w'
           | none => none) else none
  | i => if isRet i = true then (match cret me st i with | some v => rt v w | none => none)
    else match pstep i pc ls st with | some (pc', ls', st') => k pc' ls' st' w | none => none
def lexec (P : Cl) (Q : Lw) (sc : Sc) : Nat → Nat → Me → Nat → Lv → List Value → Wd → Rw
  | 0, _, _, _, _, _, _ => none
  | f + 1, mi, me, pc, ls, st, w => match fetch me.cd pc with
    | none => none
    | some (i, _) => lstep P Q sc mi me (fun v w => some (v, w)) (ccall P f) (fun m' as w => match asc Q.ms m' with | some me' => (if (layA as).length ≤ me'.ml then lexec P Q sc f m' me' 0 (lay as me'.ml) [] w else none) | none => none) (lexec P Q sc f mi me) i pc ls st w
theorem lexec_cnt {P : Cl} {Q : Lw} {sc : Sc} : ∀ f mi me pc ls st w v w', mi ≠ 0 → lexec P Q sc f mi me pc ls st w = some (v, w') → w'.2 = w.2 := by
  intro f
  induction f with
  | zero => intro mi me pc ls st w v w' _ h; cases h
  | succ f ih =>
    intro mi me pc ls st w v w' h0 h
    simp only [lexec] at h
    split at h
    · cases h
    · unfold lstep at h
      split at h
      · split at h
        · split at h
          · exact ih _ _ _ _ _ _ _ _ h0 h
          · cases h
        · cases h
      · split at h
        · exact ih _ _ _ _ _ _ _ _ h0 h
        · cases h
      · split at h
        · exact ih _ _ _ _ _ _ _ _ h0 h
        · cases h
      · split at h
        · exact ih _ _ _ _ _ _ _ _ h0 h
        · cases h
      · split at h
        · rename_i q; exact absurd q.1 h0
        · cases h
      · split at h
        · cases h
        · split at h
          · split at h
            · rename_i q; exact absurd q.2.1 h0
            · cases h
          · cases h
      · split at h
        · cases h
        · split at h
          · cases h
          · split at h
            · split at h
              · split at h
                · exact (ih _ _ _ _ _ _ _ _ h0 h).trans rfl
                · exact (ih _ _ _ _ _ _ _ _ h0 h).trans rfl
                · cases h
              · cases h
            · cases h
      · split at h
        · cases h
        · split at h
          · cases h
          · rename_i me' hme'
            split at h
            · rename_i hg
              dsimp only at h
              rw [hme'] at h
              dsimp only at h
              split at h
              · rename_i w2 hc
                split at hc
                · exact (ih _ _ _ _ _ _ _ _ h0 h).trans (ih _ _ _ _ _ _ _ _ hg.1 hc)
                · cases hc
              · rename_i u w2 hc
                split at hc
                · exact (ih _ _ _ _ _ _ _ _ h0 h).trans (ih _ _ _ _ _ _ _ _ hg.1 hc)
                · cases hc
              · cases h
            · cases h
      · split at h
        · split at h
          · cases h; rfl
          · cases h
        · split at h
          · exact ih _ _ _ _ _ _ _ _ h0 h
          · cases h
def lcall (P : Cl) (Q : Lw) (sc : Sc) (f m' : Nat) (as : List Value) (w : Wd) : Rw := match asc Q.ms m' with | some me' => (if (layA as).length ≤ me'.ml then lexec P Q sc f m' me' 0 (lay as me'.ml) [] w else none) | none => none
def zOf (Q : Lw) (me : Me) : MethodName := ⟨Q.nm, me.nm, me.ds⟩
def LinkL (P : Cl) (Q : Lw) (Z : State) (a0 : Array Value) : Prop :=
  ((Cond.classLink Q.nm Q.cx P.nm).before a0 Z = true ∧ (Cond.instantiable P.nm Q.nf).before a0 Z = true) ∧
  (∀ me, asc P.ms 0 = some me → (Cond.methodLink Q.nm Q.ci (yOf P me)).before a0 Z = true ∧ (Cond.instanceMethod (yOf P me)).before a0 Z = true ∧ me.rt = 0) ∧
  (∀ x m', asc Q.vx x = some m' → ∀ me, asc P.ms m' = some me → (Cond.methodLink Q.nm x (yOf P me)).before a0 Z = true ∧ (Cond.declares (yOf P me)).before a0 Z = true ∧ (Cond.instanceMethod (yOf P me)).before a0 Z = true ∧ (Cond.selects P.nm (yOf P me) (yOf P me)).before a0 Z = true) ∧
  (∀ x m', asc Q.sx x = some m' → ∀ me, asc Q.ms m' = some me → (Cond.methodLink Q.nm x (zOf Q me)).before a0 Z = true ∧ (Cond.static (zOf Q me)).before a0 Z = true ∧ (Cond.initialized Q.nm).before a0 Z = true) ∧
  (∀ x v, asc Q.kx x = some v → match v with
    | .int z => (Cond.constant Q.nm x z).before a0 Z = true
    | .long z => (Cond.constantLong Q.nm x z).before a0 Z = true
    | _ => True) ∧
  (∀ mi me, asc Q.ms mi = some me → mi ≠ 0 → ∃ (bytes : ByteArray) (ps : List FieldType), (Cond.code (zOf Q me) bytes me.ml (retOf me.rt)).before a0 Z = true ∧
    (∀ pc i n, fetch me.cd pc = some (i, n) → decode bytes pc = .ok (i, n) ∧ (isSw i = true ∨ n = ilen i)) ∧ parseMethodDescriptor me.ds = some ⟨ps, retOf me.rt⟩ ∧ ps.length = me.na) ∧
  plainName Q.nm = true ∧ (Q.nm ≠ "java/lang/invoke/MethodHandle" ∧ Q.nm ≠ "java/lang/invoke/VarHandle")
def rho (a n0 K : Nat) : Nat → Nat
  | 0 => a
  | o + 1 => n0 + o * K
def SRep (Z : State) (h : Heap) (a n0 : Nat) (sc : Sc) : Prop :=
  match sc with
  | none => True
  | some (n, g) => a < n0 ∧ ∃ cl : Cell, Arr Z h a cl .int ∧ cl.slots.size = n ∧ ∀ i, i < n → cl.slots[i]? = some (.int (g i))
def LRep (P : Cl) (Z : State) (h : Heap) (a n0 : Nat) (sc : Sc) (w : Wd) : Prop :=
  SRep Z h a n0 sc ∧ (∀ o, o < w.2.1 → HRep P Z h (n0 + o * (P.al.length + 1)) P.al.length (w.1 o)) ∧
  (w.2.2 = true → HRep P Z h (n0 + w.2.1 * (P.al.length + 1)) 0 (w.1 w.2.1)) ∧ h.size = n0 + w.2.1 * (P.al.length + 1) + (if w.2.2 = true then 1 else 0)
def lRoom (Q : Lw) (mi : Nat) (me : Me) : Room := { frames := me.rf, cells := if mi = 0 then Q.rc else 0, slots := if mi = 0 then Q.rs else 0, locals := me.rl }
def QL (P : Cl) (Z : State) (a n0 : Nat) (sc : Sc) (v : Option Value) (w' : Wd) (u : Option Value) (h : Heap) (L : List Loc) : Prop :=
  (u = v ∧ ∀ ρ, u.toList.map (va ρ) = u.toList) ∧ Fr n0 L ∧ LRep P Z h a n0 sc w'
def lco (P : Cl) (mi : Nat) (w : Wd) : Nat := if mi = 0 then w.2.1 * (P.al.length + 1) + (if w.2.2 = true then 1 else 0) else 0
def lzo (P : Cl) (Q : Lw) (mi : Nat) (w : Wd) : Nat := if mi = 0 then w.2.1 * (Q.nf + zs P.al P.al.length) + (if w.2.2 = true then Q.nf else 0) else 0
def LW (P : Cl) (Q : Lw) (sc : Sc) (Z : State) (a n0 f mi : Nat) (me : Me) : Prop :=
  ∀ (p : Program) (l : Launch) (e : Env) (s₀ : State) (m : MethodId) (args : Array Value) (below : List Frame) (meth : Method) (cd : Code) (T : State) (locs : List Loc) (pc : Nat) (ls : Lv) (st : List Value) (w : Wd) (v : Option Value) (w' : Wd) (L : Array Slot),
    p.tables.exec = Jvm.exec → Z.Warmed39 s₀.vm → s₀.vm.findClass Q.nm = some m.cls → meth.sig.returnType = retOf me.rt → cd.maxLocals = me.ml → meth.locks = false → (mi = 0 → s₀.heap.size = n0) →
    (∀ pc i n, fetch me.cd pc = some (i, n) → decode cd.code pc = .ok (i, n) ∧ (isSw i = true ∨ n = ilen i)) →
    lexec P Q sc f mi me pc ls st w = some (v, w') →
    Stand p l e (lRoom Q mi me) s₀ m args below meth cd T locs (lco P mi w) (lzo P Q mi w) → w.2.1 * (P.al.length + 1) + (if w.2.2 = true then 1 else 0) ≤ (lRoom Q 0 me).cells → w.2.1 * (Q.nf + zs P.al P.al.length) + (if w.2.2 = true then Q.nf else 0) ≤ (lRoom Q 0 me).slots →
    LRep P Z T.heap a n0 sc w → Fr n0 locs → LR (rho a n0 (P.al.length + 1)) ls L → ls.length = me.ml →
    Don p e below s₀ (lRoom Q mi me) (QL P Z a n0 sc v w') (T.setTop (mkF m pc L (st.map (va (rho a n0 (P.al.length + 1))))))
theorem met_of_LW {P : Cl} {Q : Lw} {sc : Sc} {Z : State} {a0 : Array Value} (LL : LinkL P Q Z a0) {a n0 f mi : Nat} {me : Me} (hW : LW P Q sc Z a n0 f mi me) (hmi : mi ≠ 0) (l : Launch) {bytes : ByteArray}
    (hdec : ∀ pc i n, fetch me.cd pc = some (i, n) → decode bytes pc = .ok (i, n) ∧ (isSw i = true ∨ n = ilen i))
    {as : List Value} (hd : ∀ v ∈ as, ∀ x, v ≠ .double x) (hlen : (layA as).length ≤ me.ml) {w w' : Wd} {v : Option Value} {h : Heap} (hr : lexec P Q sc f mi me 0 (lay as me.ml) [] w = some (v, w'))
    (hc1 : w.2.1 * (P.al.length + 1) + (if w.2.2 = true then 1 else 0) ≤ Q.rc) (hc2 : w.2.1 * (Q.nf + zs P.al P.al.length) + (if w.2.2 = true then Q.nf else 0) ≤ Q.rs)
    (H : LRep P Z h a n0 sc w) :
    MetFree l (zOf Q me) (head1 [Cond.code (zOf Q me) bytes me.ml (retOf me.rt)] (lRoom Q mi me)) (fun b U => b = (as.map (va (rho a n0 (P.al.length + 1)))).toArray ∧ Z.Warmed39 U.vm ∧ U.heap = h) (fun _ _ _ _ _ => True)
      (fun _ U o U' => ∃ u L, o = .returned u ∧ QL P Z a n0 sc v w' u U'.heap L ∧ FrameEnd U o U' L (lRoom Q mi me).cells (lRoom Q mi me).slots) := by
  refine MetFree.of_bodySF (plainFor_of_name LL.2.2.2.2.2.2.1) hisR ?_
  intro p e s₀ m args below meth cd s₁ Bd hml hP hK
  obtain ⟨rfl, hZ, hh⟩ := hP
  have e0 : s₁.heap = h := by rw [← hh, Bd.state]; rfl
  have X0 : Stand p l e (lRoom Q mi me) s₀ m _ below meth cd s₁ [] 0 0 := Stand.of_body Bd
  have hown : s₀.vm.findClass Q.nm = some m.cls := findClass_of_methodNamed Bd.named
  have hk0 : lco P mi w = 0 := by simp [lco, hmi]
  have hz0 : lzo P Q mi w = 0 := by simp [lzo, hmi]
  have D := hW p l e s₀ m _ below meth cd s₁ [] 0 (lay as me.ml) [] w v w' _ Bd.exec hZ hown Bd.returns hml Bd.notSynchronized (fun q => absurd q hmi)
    (fun pc i n q => by rw [Bd.bytes]; exact hdec pc i n q) hr (by rw [hk0, hz0]; exact X0) (by simpa [lRoom] using hc1) (by simpa [lRoom] using hc2) (by rw [e0]; exact H) (Fr.nil n0) (lay_LR hd hlen) (lay_len hlen)
  obtain ⟨s₂, o, a1, a2, a3, u, L, a4, a5, a6⟩ := D
  exact ⟨s₂, o, a1, a2, a3, u, L, a4, a5, a6⟩
end Jvm.LM

namespace Jvm.LM
open Sem ClassFile Op Lib Jvm.Stand Jvm.Free Jvm.LawKit Jvm.RoadKit
theorem rng {a b K : Nat} (h : a < b) : a * K + K ≤ b * K := by
  have := Nat.mul_le_mul_right K (show a + 1 ≤ b from h)
  rw [Nat.succ_mul] at this; exact this
theorem SRep.congr {Z : State} {h h' : Heap} {a n0 : Nat} {sc : Sc} (H : SRep Z h a n0 sc) (e : ∀ x, x < n0 → h'[x]? = h[x]?) : SRep Z h' a n0 sc := by
  unfold SRep at H ⊢
  split
  · trivial
  · obtain ⟨h1, cl, ⟨q1, q2⟩, q3⟩ := H
    exact ⟨h1, cl, ⟨by rw [e a h1]; exact q1, q2⟩, q3⟩
/-- one object has moved, the others stand -/
theorem LRep.call {P : Cl} {Z : State} {h h' : Heap} {a n0 o : Nat} {sc : Sc} {w : Wd} {s' : St} (H : LRep P Z h a n0 sc w) (ho : o < w.2.1) (K : Kp h h' (n0 + o * (P.al.length + 1)) P.al.length) (hs : h'.size = h.size) (H' : HRep P Z h' (n0 + o * (P.al.length + 1)) P.al.length s') :
    LRep P Z h' a n0 sc (uo w.1 o s', w.2.1, w.2.2) := by
  obtain ⟨h1, h2, h3, h4⟩ := H
  refine ⟨h1.congr fun x hx => K x (Or.inl (by omega)), fun o' ho' => ?_, fun q => ?_, by rw [hs]; exact h4⟩
  · by_cases e : o' = o
    · subst e; simpa [uo] using H'
    · have := (h2 o' ho').congr (h' := h') fun x hx1 hx2 => K x (by
        rcases Nat.lt_or_gt_of_ne e with q | q
        · have := rng (K := P.al.length + 1) q; omega
        · have := rng (K := P.al.length + 1) q; omega)
      simpa [uo, e] using this
  · have e : w.2.1 ≠ o := by omega
    have := (h3 q).congr (h' := h') fun x hx1 hx2 => K x (by have := rng (K := P.al.length + 1) ho; omega)
    simpa [uo, e] using this
theorem ar1 {x k r y : Nat} (e : y = x + (k + 1)) (h : y ≤ r) : x + 1 + k ≤ r := by omega
theorem ar3 {x k y : Nat} (h : y = x + (k + 1)) : y + 0 = x + 1 + k := by omega
theorem ar4 {x f z y : Nat} (h : y = x + (f + z)) : y + 0 = x + f + z := by omega
theorem ar5 {x f z r y : Nat} (e : y = x + (f + z)) (h : y ≤ r) : x + f + z ≤ r := by omega
theorem ar6 {n x k y : Nat} (h : y = x + (k + 1)) : n + x + 1 + k = n + y + 0 := by omega
theorem lwalk {P : Cl} {Q : Lw} {sc : Sc} {Z : State} {a0 : Array Value} (LK : LinkC P Z a0) (LL : LinkL P Q Z a0) {a n0 : Nat} : ∀ f mi me, asc Q.ms mi = some me → LW P Q sc Z a n0 f mi me := by
  intro f
  induction f with
  | zero =>
    intro mi me hme p l e s₀ m args below meth cd T locs pc ls st w v w' L hx hZ hown hret hml hlk hs0 hdec hr
    cases hr
  | succ f ih =>
    intro mi me hme p l e s₀ m args below meth cd T locs pc ls st w v w' L hx hZ hown hret hml hlk hs0 hdec hr X hc1 hc2 I hFr hL hlen
    simp only [lexec] at hr
    split at hr
    · cases hr
    · rename_i i n hf
      obtain ⟨hd, hn⟩ := hdec pc i n hf
      have ihk := ih mi me hme
      have hsize : L.size = cd.maxLocals := by rw [hL.1, hlen, hml]
      unfold lstep at hr
      split at hr
      -- iaload
      · obtain rfl := hn.resolve_left Bool.false_ne_true
        split at hr
        · rename_i N g j r
          split at hr
          · rename_i hin
            obtain ⟨ha, cl, A, hN, hv⟩ : SRep Z T.heap a n0 (some (N, g)) := I.1
            refine Don.step (fun t q => ?_) (ihk p l e s₀ m args below meth cd T locs _ ls (.int (g (ix j)) :: r) w v w' L hx hZ hown hret hml hlk hs0 hdec hr X hc1 hc2 I hFr hL hlen)
            exact X.iaload hx A.1 (State.isArrayOf_alike hZ.alike A.2.1) A.2.2 (by rw [hN]; exact inb_not hin) (hv (ix j) (inb_ix hin)) (g := mkF m pc L (.int j :: .ref a :: r.map (va (rho a n0 (P.al.length + 1))))) rfl rfl hd t q
          · cases hr
        · cases hr
      -- arraylength
      · obtain rfl := hn.resolve_left Bool.false_ne_true
        split at hr
        · rename_i N g r
          obtain ⟨ha, cl, A, hN, hv⟩ : SRep Z T.heap a n0 (some (N, g)) := I.1
          refine Don.step (fun t q => ?_) (ihk p l e s₀ m args below meth cd T locs _ ls (.int (Int32.ofNat N) :: r) w v w' L hx hZ hown hret hml hlk hs0 hdec hr X hc1 hc2 I hFr hL hlen)
          exact X.arraylength hx A.1 (State.isArrayOf_alike hZ.alike A.2.1) (g := mkF m pc L (.ref a :: r.map (va (rho a n0 (P.al.length + 1))))) rfl rfl hd t (by rw [hN]; exact q)
        · cases hr
      -- constants
      · obtain rfl := hn.resolve_left Bool.false_ne_true
        split at hr
        · rename_i z hg
          exact Don.step (fun t q => X.ldcI hx hown (mv hZ (LL.2.2.2.2.1 _ _ hg)) (g := mkF m pc L (st.map (va (rho a n0 (P.al.length + 1))))) rfl hd q) (ihk p l e s₀ m args below meth cd T locs _ ls (.int z :: st) w v w' L hx hZ hown hret hml hlk hs0 hdec hr X hc1 hc2 I hFr hL hlen)
        · cases hr
      · obtain rfl := hn.resolve_left Bool.false_ne_true
        split at hr
        · rename_i z hg
          exact Don.step (fun t q => X.ldc2J hx hown (mv hZ (LL.2.2.2.2.1 _ _ hg)) (g := mkF m pc L (st.map (va (rho a n0 (P.al.length + 1))))) rfl hd q) (ihk p l e s₀ m args below meth cd T locs _ ls (.long z :: st) w v w' L hx hZ hown hret hml hlk hs0 hdec hr X hc1 hc2 I hFr hL hlen)
        · cases hr
      -- new
      · obtain rfl := hn.resolve_left Bool.false_ne_true
        split at hr
        · rename_i hg
          obtain ⟨rfl, rfl, hp, hg1, hg2⟩ := hg
          obtain ⟨os, cnt, pend⟩ := w
          dsimp only at hp hg1 hg2 hr
          subst hp
          have hk : lco P 0 (os, cnt, false) = cnt * (P.al.length + 1) := by simp [lco]
          have hz : lzo P Q 0 (os, cnt, false) = cnt * (Q.nf + zs P.al P.al.length) := by simp [lzo]
          have m1 : (cnt + 1) * (P.al.length + 1) = cnt * (P.al.length + 1) + (P.al.length + 1) := Nat.succ_mul ..
          have m2 : (cnt + 1) * (Q.nf + zs P.al P.al.length) = cnt * (Q.nf + zs P.al P.al.length) + (Q.nf + zs P.al P.al.length) := Nat.succ_mul ..
          rw [hk, hz] at X
          obtain ⟨T', h', X', q1, E, A, D, -, st1⟩ := newO X hx hZ hown LL.1.1 LL.1.2 LK.1.2 rfl (g := mkF m pc L (st.map (va (rho a n0 (P.al.length + 1))))) rfl hd (by simp only [lRoom, if_true]; omega) (by simp only [lRoom, if_true]; omega)
          obtain ⟨i1, i2, i3, i4⟩ := I
          have hsz : T.heap.size = n0 + cnt * (P.al.length + 1) := by simpa using i4
          have hsz' : h'.size = n0 + cnt * (P.al.length + 1) + 1 := by
            have g1 : T'.heap.size ≤ s₀.heap.size + (cnt * (P.al.length + 1) + 1) := X'.heapSize
            have g2 : T.heap.size < Array.size h' := A.lt
            rw [q1, hs0 rfl] at g1
            rw [hsz] at g2
            omega
          have same : ∀ x, x < T.heap.size → h'[x]? = T.heap[x]? := fun x hx => by
            obtain ⟨cc, hcc⟩ : ∃ cc, T.heap[x]? = some cc := ⟨T.heap[x], Array.getElem?_eq_getElem hx⟩
            rw [hcc]; exact E.2 _ _ hcc
          have I' : LRep P Z T'.heap a n0 sc (uo os cnt s0, cnt, true) := by
            rw [q1]
            refine ⟨i1.congr fun x hx => same x (by omega), fun o ho => ?_, fun _ => ?_, by simpa using hsz'⟩
            · have := (i2 o ho).congr (h' := h') fun x hx1 hx2 => same x (by have := rng (K := P.al.length + 1) (show o < cnt from ho); omega)
              simpa [uo, show o ≠ cnt from Nat.ne_of_lt ho] using this
            · simp only [uo, if_true]
              rw [hsz] at A D
              refine ⟨A, fun k fe hk => ?_, fun j tt N hj hc => absurd hc (Nat.not_lt_zero _), fun j i hj => ⟨rfl, rfl⟩, Nat.zero_le _⟩
              have q := D (laid_of LK hk) (LK.2.2.2.1 k fe hk)
              have e2 : Fval (n0 + cnt * (P.al.length + 1)) 0 s0 k fe = defaultValue (fkTy P fe.2.2.1) := by
                simp only [Fval]; split
                · rename_i e3; rw [e3]; rfl
                · rename_i e3; rw [e3]; rfl
                · rename_i e3; rw [e3]; rfl
                · rename_i e3; rw [e3]; rfl
              rw [e2]; exact q
          refine Don.step (fun t q => st1 t ?_) (ihk p l e s₀ m args below meth cd T' locs _ ls (.ref (cnt + 1) :: st) _ v w' L hx hZ hown hret hml hlk hs0 hdec hr (by simpa [lco, lzo] using X') (by simp only [lRoom, if_true]; omega) (by simp only [lRoom, if_true]; omega) I' hFr hL hlen)
          rw [hsz]; exact q
        · cases hr
      -- the constructor
      · obtain rfl := hn.resolve_left Bool.false_ne_true
        split at hr
        · cases hr
        · rename_i me' hme'
          split at hr
          · rename_i o r hst
            split at hr
            · rename_i hg
              obtain ⟨rfl, rfl, hgo, hp, hg1, hg2, hg3, hg4, hg5⟩ := hg
              obtain ⟨os, cnt, pend⟩ := w
              dsimp only at hgo hp hg1 hg2 hr hg4 hg5
              subst hp hgo
              obtain ⟨bytes, ps, hcode, hdec', hpar, hpl⟩ := LK.2.2.2.2.2.2.2.2.1 0 me' hme'
              obtain ⟨w1, w2, hrt⟩ := LL.2.1 me' hme'
              have hcode' := hcode
              rw [hrt] at hcode'
              have hini := LK.2.2.2.2.2.2.2.2.2.2.2.2 me' hme'
              have m1 : (o + 1) * (P.al.length + 1) = o * (P.al.length + 1) + (P.al.length + 1) := Nat.succ_mul ..
              have m2 : (o + 1) * (Q.nf + zs P.al P.al.length) = o * (Q.nf + zs P.al P.al.length) + (Q.nf + zs P.al P.al.length) := Nat.succ_mul ..
              simp only [ccall, hme'] at hr
              by_cases hla : (layA (Value.ref 0 :: (st.take me'.na).reverse)).length ≤ me'.ml
              · rw [if_pos hla] at hr
                cases hcl : cexec P f 0 me' 0 0 (lay (.ref 0 :: (st.take me'.na).reverse) me'.ml) [] (os o) with
                | none => rw [hcl] at hr; cases hr
                | some vs =>
                  obtain ⟨u, s1⟩ := vs
                  rw [hcl] at hr
                  cases u with
                  | some u => cases hr
                  | none =>
                    dsimp only at hr
                    obtain ⟨i1, i2, i3, i4⟩ := I
                    have hsz : T.heap.size = n0 + o * (P.al.length + 1) + 1 := by simpa using i4
                    have hM := met_of_CW LK hme' (cwalk LK (n0 := n0) (adr := n0 + o * (P.al.length + 1)) (Nat.le_add_right _ _) f 0 me' hme') l hdec' (as := .ref 0 :: (st.take me'.na).reverse) (nd_rev (ρ := id) (nr_nd hg3)) hla hcl (fun _ => rfl) (i3 rfl) (fun _ => hsz)
                    have hB := backOf (R := lRoom Q 0 me) (p := p) (e := e) (below := below) (s := s₀) (args := args) (len := 3) (W := cats r) hM hZ hcode LK.1.2 hg1 hg2
                    have hdl : me'.na < st.length := by
                      have := congrArg List.length hst
                      simp at this; omega
                    have hsp : st = st.take me'.na ++ .ref (o + 1) :: r := by rw [← hst, List.take_append_drop]
                    have hrv : ∀ ρ : Nat → Nat, (st.take me'.na).reverse.map (va ρ) = (st.take me'.na).reverse := fun ρ => by rw [List.map_reverse, nr_map hg3]
                    have hsm : st.map (va (rho a n0 (P.al.length + 1))) = ((st.take me'.na).reverse).reverse ++ .ref (n0 + o * (P.al.length + 1)) :: r.map (va (rho a n0 (P.al.length + 1))) := by
                      conv => lhs; rw [hsp]
                      rw [List.map_append, nr_map hg3]; simp [va, rho]
                    have hll : ∀ sig, parseMethodDescriptor (yOf P me').desc = some sig → ((st.take me'.na).reverse).length = sig.parameters.length := lenOf hpar (by simp [hpl]; omega)
                    have hk : lco P 0 (os, o, true) = o * (P.al.length + 1) + 1 := by simp [lco]
                    have hz : lzo P Q 0 (os, o, true) = o * (Q.nf + zs P.al P.al.length) + Q.nf := by simp [lzo]
                    rw [hk, hz] at X
                    have hpre : ∀ vm₁, s₀.WarmedH vm₁ → ((Value.ref (n0 + o * (P.al.length + 1)) :: (st.take me'.na).reverse).toArray = ((Value.ref 0 :: (st.take me'.na).reverse).map (va ((n0 + o * (P.al.length + 1)) + ·))).toArray ∧ (T.setVm vm₁).heap = T.heap ∧ o * (P.al.length + 1) + 1 + (cRoom P 0 me').cells ≤ (lRoom Q 0 me).cells ∧ o * (Q.nf + zs P.al P.al.length) + Q.nf + (cRoom P 0 me').slots ≤ (lRoom Q 0 me).slots) := fun vm₁ _ => by
                      refine ⟨by rw [List.map_cons, hrv]; rfl, rfl, ?_, ?_⟩
                      · show o * (P.al.length + 1) + 1 + P.al.length ≤ Q.rc
                        exact ar1 m1 hg4
                      · show o * (Q.nf + zs P.al P.al.length) + Q.nf + zs P.al P.al.length ≤ Q.rs
                        exact ar5 m2 hg5
                    obtain ⟨v', vm₁, ⟨U, lo, ce, sl⟩, -, X', ⟨Lc, hQ, l1, l2, l3⟩, stp⟩ := X.specialBack hx (y := yOf P me') hini hown (mv hZ w1) (mv hZ w2) (mv hZ hcode') LK.2.2.2.2.2.2.2.2.2.2.2.1 hB (g := mkF m pc L (st.map (va (rho a n0 (P.al.length + 1))))) rfl hsize (Steps.refl _) hll hsm (by show 2 * 0 + _ ≤ _; rw [cats_va]; omega) hd hpre
                    dsimp only [Pt.U, Pt.locs, Pt.cells, Pt.slots] at X' hQ l1 l2 l3 stp
                    subst l1 l2 l3
                    obtain ⟨⟨rfl, -⟩, hF', hH', hK', hS'⟩ := hQ
                    rw [if_pos rfl] at hH' hS'
                    have I' : LRep P Z U.heap a n0 sc (uo os o s1, o + 1, false) := by
                      refine ⟨i1.congr fun x hx => hK' x (Or.inl (by omega)), fun o' ho' => ?_, fun q => by simp at q, by rw [hS']; show n0 + o * (P.al.length + 1) + 1 + P.al.length = n0 + (o + 1) * (P.al.length + 1) + 0; exact ar6 m1⟩
                      by_cases e2 : o' = o
                      · subst e2; simpa [uo] using hH'
                      · have ho2 : o' < o := by have : o' < o + 1 := ho'; omega
                        have := (i2 o' ho2).congr (h' := U.heap) fun x hx1 hx2 => hK' x (by have := rng (K := P.al.length + 1) ho2; omega)
                        simpa [uo, e2] using this
                    refine Don.step (fun t q => stp.trans q) (ihk p l e s₀ m args below meth cd U (locs ++ Lc) _ ls r _ v w' L hx hZ hown hret hml hlk hs0 hdec hr ?_ (by show (o + 1) * (P.al.length + 1) + 0 ≤ Q.rc; omega) (by show (o + 1) * (Q.nf + zs P.al P.al.length) + 0 ≤ Q.rs; omega) I' (hFr.app hF') hL hlen)
                    have h1 : lco P 0 (uo os o s1, o + 1, false) = o * (P.al.length + 1) + 1 + (cRoom P 0 me').cells := by
                      show (o + 1) * (P.al.length + 1) + 0 = o * (P.al.length + 1) + 1 + P.al.length
                      exact ar3 m1
                    have h2 : lzo P Q 0 (uo os o s1, o + 1, false) = o * (Q.nf + zs P.al P.al.length) + Q.nf + (cRoom P 0 me').slots := by
                      show (o + 1) * (Q.nf + zs P.al P.al.length) + 0 = o * (Q.nf + zs P.al P.al.length) + Q.nf + zs P.al P.al.length
                      exact ar4 m2
                    rw [h1, h2]; exact X'
              · rw [if_neg hla] at hr; cases hr
            · cases hr
          · cases hr
      -- a method of the class
      · obtain rfl := hn.resolve_left Bool.false_ne_true
        split at hr
        · cases hr
        · rename_i m' hm'
          split at hr
          · cases hr
          · rename_i me' hme'
            split at hr
            · rename_i o r hst
              split at hr
              · rename_i hg
                obtain ⟨hg0, hgo, hg1, hg2, hg3⟩ := hg
                obtain ⟨bytes, ps, hcode, hdec', hpar, hpl⟩ := LK.2.2.2.2.2.2.2.2.1 m' me' hme'
                obtain ⟨w1, w2, w3, w4⟩ := LL.2.2.1 _ _ hm' me' hme'
                simp only [ccall, hme'] at hr
                by_cases hla : (layA (Value.ref 0 :: (st.take me'.na).reverse)).length ≤ me'.ml
                · rw [if_pos hla] at hr
                  cases hcl : cexec P f m' me' P.al.length 0 (lay (.ref 0 :: (st.take me'.na).reverse) me'.ml) [] (w.1 o) with
                  | none => rw [hcl] at hr; cases hr
                  | some vs =>
                    obtain ⟨u, s1⟩ := vs
                    rw [hcl] at hr
                    have hr' : lexec P Q sc f mi me (pc + 3) ls (u.toList ++ r) (uo w.1 o s1, w.2.1, w.2.2) = some (v, w') := by cases u <;> exact hr
                    have hM := met_of_CW LK hme' (cwalk LK (n0 := n0) (adr := n0 + o * (P.al.length + 1)) (Nat.le_add_right _ _) f m' me' hme') l hdec' (as := .ref 0 :: (st.take me'.na).reverse) (nd_rev (ρ := id) (nr_nd hg3)) hla hcl (fun q => absurd q hg0) (I.2.1 o hgo) (fun q => absurd q hg0)
                    have hB := backOf (R := lRoom Q mi me) (p := p) (e := e) (below := below) (s := s₀) (args := args) (len := 3) (W := cats r) hM hZ hcode LK.1.2 hg1 hg2
                    have hdl : me'.na < st.length := by
                      have := congrArg List.length hst
                      simp at this; omega
                    have hsp : st = st.take me'.na ++ .ref (o + 1) :: r := by rw [← hst, List.take_append_drop]
                    have hrv : ∀ ρ : Nat → Nat, (st.take me'.na).reverse.map (va ρ) = (st.take me'.na).reverse := fun ρ => by rw [List.map_reverse, nr_map hg3]
                    have hsm : st.map (va (rho a n0 (P.al.length + 1))) = ((st.take me'.na).reverse).reverse ++ .ref (n0 + o * (P.al.length + 1)) :: r.map (va (rho a n0 (P.al.length + 1))) := by
                      conv => lhs; rw [hsp]
                      rw [List.map_append, nr_map hg3]; simp [va, rho]
                    have hll : ∀ sig, parseMethodDescriptor (yOf P me').desc = some sig → ((st.take me'.na).reverse).length = sig.parameters.length := lenOf hpar (by simp [hpl]; omega)
                    have hz1 : (cRoom P m' me').cells = 0 := by simp [cRoom, hg0]
                    have hz2 : (cRoom P m' me').slots = 0 := by simp [cRoom, hg0]
                    have hpre : ∀ vm₁, s₀.WarmedH vm₁ → ((Value.ref (n0 + o * (P.al.length + 1)) :: (st.take me'.na).reverse).toArray = ((Value.ref 0 :: (st.take me'.na).reverse).map (va ((n0 + o * (P.al.length + 1)) + ·))).toArray ∧ (T.setVm vm₁).heap = T.heap ∧ lco P mi w + (cRoom P m' me').cells ≤ (lRoom Q mi me).cells ∧ lzo P Q mi w + (cRoom P m' me').slots ≤ (lRoom Q mi me).slots) := fun vm₁ _ => by
                      refine ⟨by rw [List.map_cons, hrv]; rfl, rfl, ?_, ?_⟩
                      · rw [hz1]; simp only [lco, lRoom] at *; split
                        · simpa using hc1
                        · exact Nat.le_refl _
                      · rw [hz2]; simp only [lzo, lRoom] at *; split
                        · simpa using hc2
                        · exact Nat.le_refl _
                    obtain ⟨cq, kq, qa, qb, qc⟩ := isOf hZ rfl (I.2.1 o hgo).1
                    obtain ⟨v', vm₁, ⟨U, lo, ce, sl⟩, -, X', ⟨Lc, hQ, l1, l2, l3⟩, stp⟩ := X.virtualBack hx (y := yOf P me') (z := yOf P me') hown (mv hZ w1) (mv hZ w2) (notFace_of_selects (args := #[]) (mv hZ w4)) (mv hZ w4) (mv hZ w3) LK.2.2.2.2.2.2.2.2.2.2.2.1 hB qa qc (g := mkF m pc L (st.map (va (rho a n0 (P.al.length + 1))))) rfl hsize (Steps.refl _) hll hsm (by show 2 * 0 + _ ≤ _; rw [cats_va]; omega) hd hpre
                    dsimp only [Pt.U, Pt.locs, Pt.cells, Pt.slots] at X' hQ l1 l2 l3 stp
                    subst l1 l2 l3
                    obtain ⟨⟨rfl, hva⟩, hF', hH', hK', hS'⟩ := hQ
                    rw [if_neg hg0] at hH' hS'
                    rw [hz1, hz2] at X'
                    refine Don.step (fun t q => stp.trans ?_) (ihk p l e s₀ m args below meth cd U (locs ++ Lc) _ ls (v'.toList ++ r) _ v w' L hx hZ hown hret hml hlk hs0 hdec hr' X' hc1 hc2 (I.call hgo hK' hS' hH') (hFr.app hF') hL hlen)
                    rw [List.map_append, hva] at q; exact q
                · rw [if_neg hla] at hr; cases hr
              · cases hr
            · cases hr
      -- a static method of the law
      · obtain rfl := hn.resolve_left Bool.false_ne_true
        split at hr
        · cases hr
        · rename_i m' hm'
          split at hr
          · cases hr
          · rename_i me' hme'
            split at hr
            · rename_i hg
              obtain ⟨hg0, hgn, hg1, hg2, hg3⟩ := hg
              obtain ⟨bytes, ps, hcode, hdec', hpar, hpl⟩ := LL.2.2.2.2.2.1 m' me' hme' hg0
              obtain ⟨w1, w2, w3⟩ := LL.2.2.2.1 _ _ hm' me' hme'
              dsimp only at hr
              rw [hme'] at hr
              dsimp only at hr
              by_cases hla : (layA (st.take me'.na).reverse).length ≤ me'.ml
              · rw [if_pos hla] at hr
                cases hcl : lexec P Q sc f m' me' 0 (lay (st.take me'.na).reverse me'.ml) [] w with
                | none => rw [hcl] at hr; cases hr
                | some vs =>
                  obtain ⟨u, w2'⟩ := vs
                  rw [hcl] at hr
                  have hr' : lexec P Q sc f mi me (pc + 3) ls (u.toList ++ st.drop me'.na) w2' = some (v, w') := by cases u <;> exact hr
                  have hndv : ∀ v ∈ (st.take me'.na).reverse, ∀ x, v ≠ .double x := fun v hv x e => nd_spec hg3 v (List.mem_reverse.mp hv) x e
                  have hM := met_of_LW LL (ih m' me' hme') hg0 l hdec' (as := (st.take me'.na).reverse) hndv hla hcl (by simpa [lRoom] using hc1) (by simpa [lRoom] using hc2) I
                  have hB := backOf (R := lRoom Q mi me) (p := p) (e := e) (below := below) (s := s₀) (args := args) (len := 3) (W := cats (st.drop me'.na)) hM hZ hcode w3 hg1 hg2
                  have hsm : st.map (va (rho a n0 (P.al.length + 1))) = (((st.take me'.na).reverse).map (va (rho a n0 (P.al.length + 1)))).reverse ++ (st.drop me'.na).map (va (rho a n0 (P.al.length + 1))) := by
                    conv => lhs; rw [← List.take_append_drop me'.na st]
                    simp
                  have hll : ∀ sig, parseMethodDescriptor (zOf Q me').desc = some sig → (((st.take me'.na).reverse).map (va (rho a n0 (P.al.length + 1)))).length = sig.parameters.length := lenOf hpar (by simp [hpl]; omega)
                  have hz1 : (lRoom Q m' me').cells = 0 := by simp [lRoom, hg0]
                  have hz2 : (lRoom Q m' me').slots = 0 := by simp [lRoom, hg0]
                  have hpre : ∀ vm₁, s₀.WarmedH vm₁ → ((((st.take me'.na).reverse).map (va (rho a n0 (P.al.length + 1)))).toArray = (((st.take me'.na).reverse).map (va (rho a n0 (P.al.length + 1)))).toArray ∧ (T.setVm vm₁).heap = T.heap ∧ lco P mi w + (lRoom Q m' me').cells ≤ (lRoom Q mi me).cells ∧ lzo P Q mi w + (lRoom Q m' me').slots ≤ (lRoom Q mi me).slots) := fun vm₁ _ => by
                    refine ⟨rfl, rfl, ?_, ?_⟩
                    · rw [hz1]; simp only [lco, lRoom] at *; split
                      · simpa using hc1
                      · exact Nat.le_refl _
                    · rw [hz2]; simp only [lzo, lRoom] at *; split
                      · simpa using hc2
                      · exact Nat.le_refl _
                  obtain ⟨v', vm₁, ⟨U, lo, ce, sl⟩, -, X', ⟨Lc, hQ, l1, l2, l3⟩, stp⟩ := Jvm.LawKit.callS X hx (y := zOf Q me') hown (mv hZ w1) (mv hZ w2) (mv hZ w3) (mv hZ hcode) LL.2.2.2.2.2.2.2 hB (g := mkF m pc L (st.map (va (rho a n0 (P.al.length + 1))))) rfl hsize hll hsm (by show 2 * 0 + _ ≤ _; rw [cats_va]; omega) hd hpre
                  dsimp only [Pt.U, Pt.locs, Pt.cells, Pt.slots] at X' hQ l1 l2 l3 stp
                  subst l1 l2 l3
                  obtain ⟨⟨rfl, hva⟩, hF', hI'⟩ := hQ
                  rw [hz1, hz2] at X'
                  have hcn := lexec_cnt _ _ _ _ _ _ _ _ _ hg0 hcl
                  have e1 : lco P mi w2' = lco P mi w := by simp only [lco, hcn]
                  have e2 : lzo P Q mi w2' = lzo P Q mi w := by simp only [lzo, hcn]
                  refine Don.step (fun t q => stp t ?_) (ihk p l e s₀ m args below meth cd U (locs ++ Lc) _ ls (v'.toList ++ st.drop me'.na) _ v w' L hx hZ hown hret hml hlk hs0 hdec hr' (by rw [e1, e2]; exact X') (by rw [hcn]; exact hc1) (by rw [hcn]; exact hc2) hI' (hFr.app hF') hL hlen)
                  rw [List.map_append, hva] at q; exact q
              · rw [if_neg hla] at hr; cases hr
            · cases hr
      -- the rest
      · split at hr
        · split at hr
          · rename_i u hu
            cases hr
            refine st_ret X hx hret hlk hu hd hn ⟨⟨rfl, cret_va hu⟩, hFr, I⟩ ?_ ?_
            · simp only [lco, lRoom] at *; split
              · simpa using hc1
              · exact Nat.le_refl _
            · simp only [lzo, lRoom] at *; split
              · simpa using hc2
              · exact Nat.le_refl _
          · cases hr
        · split at hr
          · rename_i pc' ls' st' hp
            obtain ⟨L', hL', hLs, st⟩ := pstep_sound X hx hp hd hn hL
            have hlen' : ls'.length = me.ml := by rw [← hL'.1, hLs, hL.1]; exact hlen
            exact Don.step st (ihk p l e s₀ m args below meth cd T locs _ ls' st' w v w' L' hx hZ hown hret hml hlk hs0 hdec hr X hc1 hc2 I hFr hL' hlen')
          · cases hr
/-- the law as a whole: what the machine returns, the program returns -/
theorem law_met {P : Cl} {Q : Lw} {sc : Sc} {Z : State} {a0 : Array Value} (LK : LinkC P Z a0) (LL : LinkL P Q Z a0) {a f : Nat} {me : Me} (hme : asc Q.ms 0 = some me) (l : Launch) {bytes : ByteArray} {ws : List Cond}
    (hdec : ∀ pc i n, fetch me.cd pc = some (i, n) → decode bytes pc = .ok (i, n) ∧ (isSw i = true ∨ n = ilen i))
    {as : List Value} (hnd : nd as = true) (hlen : (layA as).length ≤ me.ml) {v : Option Value} {w' : Wd} {h : Heap} (hr : lexec P Q sc f 0 me 0 (lay as me.ml) [] (fun _ => s0, 0, false) = some (v, w')) (hS : SRep Z h a h.size sc) :
    MetFree l (zOf Q me) (head1 (Cond.code (zOf Q me) bytes me.ml (retOf me.rt) :: ws) (lRoom Q 0 me)) (fun b U => b = (as.map (va (rho a h.size (P.al.length + 1)))).toArray ∧ Z.Warmed39 U.vm ∧ U.heap = h) (fun _ _ _ _ _ => True)
      (fun _ U o U' => ∃ u L, o = .returned u ∧ (u = v ∧ Fr h.size L) ∧ FrameEnd U o U' L Q.rc Q.rs) := by
  refine MetFree.of_bodySF (plainFor_of_name LL.2.2.2.2.2.2.1) hisR ?_
  intro p e s₀ m args below meth cd s₁ Bd hml hP hK
  obtain ⟨rfl, hZ, hh⟩ := hP
  have e0 : s₁.heap = h := by rw [← hh, Bd.state]; rfl
  have X0 : Stand p l e (lRoom Q 0 me) s₀ m _ below meth cd s₁ [] 0 0 := Stand.of_body Bd
  have hown : s₀.vm.findClass Q.nm = some m.cls := findClass_of_methodNamed Bd.named
  have hk0 : lco P 0 (fun _ => s0, 0, false) = 0 := by simp [lco]
  have hz0 : lzo P Q 0 (fun _ => s0, 0, false) = 0 := by simp [lzo]
  have D := lwalk LK LL (sc := sc) (a := a) (n0 := h.size) f 0 me hme p l e s₀ m _ below meth cd s₁ [] 0 (lay as me.ml) [] (fun _ => s0, 0, false) v w' _ Bd.exec hZ hown Bd.returns hml Bd.notSynchronized (fun _ => by rw [hh])
    (fun pc i n q => by rw [Bd.bytes]; exact hdec pc i n q) hr (by rw [hk0, hz0]; exact X0) (by simp) (by simp) (by
      rw [e0]; exact ⟨hS, fun o ho => absurd ho (Nat.not_lt_zero _), fun q => by simp at q, by simp⟩) (Fr.nil _) (lay_LR (nd_spec hnd) hlen) (lay_len hlen)
  obtain ⟨s₂, o, a1, a2, a3, u, L, a4, a5, a6⟩ := D
  refine ⟨s₂, o, a1, a2, a3, u, L, a4, ⟨a5.1.1, a5.2.1⟩, ?_⟩
  simpa [lRoom] using a6
end Jvm.LM

namespace Jvm.LM
open Sem ClassFile Op Lib Jvm.Stand Jvm.Free Jvm.LawKit Jvm.RoadKit
/-! what a run of the machine comes to -/
theorem cstep_mono {α : Type} {P : Cl} {mi : Nat} {me : Me} {rt : Option Value → St → Option α} {cl cl' : Nat → Nat → List Value → St → Rs} {k k' : Nat → Nat → Lv → List Value → St → Option α} {i : Instr} {c pc : Nat} {ls : Lv} {st : List Value} {s : St} {r : α}
    (hcl : ∀ m c as s r, cl m c as s = some r → cl' m c as s = some r) (hk : ∀ c pc ls st s r, k c pc ls st s = some r → k' c pc ls st s = some r) (h : cstep P mi me rt cl k i c pc ls st s = some r) : cstep P mi me rt cl' k' i c pc ls st s = some r := by
  unfold cstep at h ⊢
  split at h
  all_goals (try dsimp only)
  · split at h
    · split at h
      · exact hk _ _ _ _ _ _ h
      · cases h
    · cases h
  · split at h
    · split at h
      · exact hk _ _ _ _ _ _ h
      · cases h
    · cases h
  · split at h
    · exact hk _ _ _ _ _ _ h
    · cases h
  · split at h
    · exact hk _ _ _ _ _ _ h
    · cases h
  · split at h
    · exact hk _ _ _ _ _ _ h
    · cases h
  · split at h
    · exact hk _ _ _ _ _ _ h
    · cases h
  · split at h
    · exact hk _ _ _ _ _ _ h
    · cases h
  · split at h
    · exact hk _ _ _ _ _ _ h
    · cases h
  · split at h
    · rename_i q; rw [if_pos q]; exact hk _ _ _ _ _ _ h
    · cases h
  · split at h
    · exact hk _ _ _ _ _ _ h
    · cases h
  · split at h
    · exact hk _ _ _ _ _ _ h
    · cases h
  · split at h
    · split at h
      · rename_i q; rw [if_pos q]; exact hk _ _ _ _ _ _ h
      · cases h
    · cases h
  · split at h
    · cases h
    · rename_i m' hm'
      split at h
      · cases h
      · rename_i me' hme'
        split at h
        · rename_i r0 hst
          split at h
          · rename_i q
            rw [if_pos q]
            split at h
            · rename_i s1 hc; rw [hcl _ _ _ _ _ hc]; exact hk _ _ _ _ _ _ h
            · rename_i v1 s1 hc; rw [hcl _ _ _ _ _ hc]; exact hk _ _ _ _ _ _ h
            · cases h
          · cases h
        · cases h
  · split at h
    · rename_i q; rw [if_pos q]; exact h
    · rename_i q; rw [if_neg q]
      split at h
      · exact hk _ _ _ _ _ _ h
      · cases h
theorem cexec_succ {P : Cl} : ∀ f mi me c pc ls st s r, cexec P f mi me c pc ls st s = some r → cexec P (f + 1) mi me c pc ls st s = some r := by
  intro f
  induction f with
  | zero => intro mi me c pc ls st s r h; cases h
  | succ f ih =>
    intro mi me c pc ls st s r h
    rw [cexec] at h ⊢
    split at h
    · cases h
    · refine cstep_mono (fun m c as s r h => ?_) (fun c pc ls st s r h => ih _ _ _ _ _ _ _ _ h) h
      split at h
      · split at h
        · rename_i q; rw [if_pos q]; exact ih _ _ _ _ _ _ _ _ h
        · cases h
      · cases h
theorem cexec_le {P : Cl} {f g mi : Nat} {me : Me} {c pc : Nat} {ls : Lv} {st : List Value} {s : St} {r : Option Value × St} (hfg : f ≤ g) (h : cexec P f mi me c pc ls st s = some r) : cexec P g mi me c pc ls st s = some r := by
  obtain ⟨d, rfl⟩ := Nat.le.dest hfg
  induction d with
  | zero => exact h
  | succ d ih => exact cexec_succ _ _ _ _ _ _ _ _ _ (ih (Nat.le_add_right _ _))
theorem ccall_le {P : Cl} {f g m' c : Nat} {as : List Value} {s : St} {r : Option Value × St} (hfg : f ≤ g) (h : ccall P f m' c as s = some r) : ccall P g m' c as s = some r := by
  unfold ccall at h ⊢
  split at h
  · split at h
    · rename_i q; rw [if_pos q]; exact cexec_le hfg h
    · cases h
  · cases h
def wpc (P : Cl) (mi : Nat) (me : Me) (c pc : Nat) (ls : Lv) (st : List Value) (s : St) (Q : Option Value → St → Prop) : Prop := ∃ f v s', cexec P f mi me c pc ls st s = some (v, s') ∧ Q v s'
def cal (P : Cl) (m' c : Nat) (as : List Value) (s : St) (Q : Option Value → St → Prop) : Prop := ∃ f v s', ccall P f m' c as s = some (v, s') ∧ Q v s'
def calI (P : Cl) (m' c : Nat) (as : List Value) (s : St) (Q : Int32 → St → Prop) : Prop := cal P m' c as s fun r s' => ∃ v, r = some (.int v) ∧ Q v s'
def calL (P : Cl) (m' c : Nat) (as : List Value) (s : St) (Q : Int64 → St → Prop) : Prop := cal P m' c as s fun r s' => ∃ v, r = some (.long v) ∧ Q v s'
def calV (P : Cl) (m' c : Nat) (as : List Value) (s : St) (Q : St → Prop) : Prop := cal P m' c as s fun r s' => r = none ∧ Q s'
theorem cstep_nat {α : Type} {P : Cl} {mi : Nat} {me : Me} {k : Nat → Nat → Lv → List Value → St → Option α} {i : Instr} {c pc : Nat} {ls : Lv} {st : List Value} {s : St} {x : α}
    (h : cstep P mi me (fun _ _ => none) (fun _ _ _ _ => none) k i c pc ls st s = some x) : ∃ c' pc' ls' st' s', k c' pc' ls' st' s' = some x ∧ ∀ (β : Type) (rt : Option Value → St → Option β) cl (k' : Nat → Nat → Lv → List Value → St → Option β), cstep P mi me rt cl k' i c pc ls st s = k' c' pc' ls' st' s' := by
  unfold cstep at h
  split at h
  · split at h
    · split at h
      · rename_i q; exact ⟨_, _, _, _, _, h, fun β rt cl k' => by simp only [cstep, q]⟩
      · cases h
    · cases h
  · split at h
    · split at h
      · rename_i q; exact ⟨_, _, _, _, _, h, fun β rt cl k' => by simp only [cstep, q]⟩
      · cases h
    · cases h
  · split at h
    · rename_i q; exact ⟨_, _, _, _, _, h, fun β rt cl k' => by simp only [cstep, q]⟩
    · cases h
  · split at h
    · rename_i q; exact ⟨_, _, _, _, _, h, fun β rt cl k' => by simp only [cstep, q]⟩
    · cases h
  · split at h
    · rename_i q; exact ⟨_, _, _, _, _, h, fun β rt cl k' => by simp only [cstep, q]⟩
    · cases h
  · split at h
    · rename_i q; exact ⟨_, _, _, _, _, h, fun β rt cl k' => by simp only [cstep, q]⟩
    · cases h
  · split at h
    · rename_i q; exact ⟨_, _, _, _, _, h, fun β rt cl k' => by simp only [cstep, q]⟩
    · cases h
  · split at h
    · rename_i q; exact ⟨_, _, _, _, _, h, fun β rt cl k' => by simp only [cstep, q]⟩
    · cases h
  · split at h
    · rename_i q; exact ⟨_, _, _, _, _, h, fun β rt cl k' => by simp only [cstep]; rw [if_pos q]⟩
    · cases h
  · split at h
    · rename_i q; exact ⟨_, _, _, _, _, h, fun β rt cl k' => by simp only [cstep, q]⟩
    · cases h
  · split at h
    · rename_i q; exact ⟨_, _, _, _, _, h, fun β rt cl k' => by simp only [cstep, q]⟩
    · cases h
  · split at h
    · split at h
      · rename_i q; exact ⟨_, _, _, _, _, h, fun β rt cl k' => by simp only [cstep]; rw [if_pos q]⟩
      · cases h
    · cases h
  · split at h
    · cases h
    · split at h
      · cases h
      · split at h
        · split at h
          · cases h
          · cases h
        · cases h
  · rename_i n1 n2 n3 n4 n5 n6 n7 n8 n9 n10 n11 n12 n13
    split at h
    · split at h
      · cases h
      · split at h <;> cases h
    · rename_i hr
      split at h
      · rename_i pc' ls' st' hp
        refine ⟨_, _, _, _, _, h, fun β rt cl k' => ?_⟩
        unfold cstep
        split <;> first | (exfalso; first | exact n1 _ rfl | exact n2 _ rfl | exact n3 rfl | exact n4 rfl | exact n5 rfl | exact n6 rfl | exact n7 rfl | exact n8 rfl | exact n9 _ rfl | exact n10 _ rfl | exact n11 _ rfl | exact n12 _ rfl | exact n13 _ rfl) | skip
        rw [if_neg hr, hp]
      · cases h
def csl (P : Cl) (mi : Nat) (me : Me) : Nat → Nat → Nat → Lv → List Value → St → Option (Nat × Nat × Lv × List Value × St)
  | 0, c, pc, ls, st, s => some (c, pc, ls, st, s)
  | n + 1, c, pc, ls, st, s => match fetch me.cd pc with
    | none => none
    | some (i, _) => cstep P mi me (fun _ _ => none) (fun _ _ _ _ => none) (csl P mi me n) i c pc ls st s
theorem wpc_one {P : Cl} {mi : Nat} {me : Me} {c pc c' pc' : Nat} {ls ls' : Lv} {st st' : List Value} {s s' : St} {Q : Option Value → St → Prop} {i : Instr} {n : Nat} (hf : fetch me.cd pc = some (i, n))
    (h : ∀ (rt : Option Value → St → Rs) cl (k : Nat → Nat → Lv → List Value → St → Rs), cstep P mi me rt cl k i c pc ls st s = k c' pc' ls' st' s') (hq : wpc P mi me c' pc' ls' st' s' Q) : wpc P mi me c pc ls st s Q := by
  obtain ⟨f, v, s2, h1, h2⟩ := hq
  refine ⟨f + 1, v, s2, ?_, h2⟩
  rw [cexec, hf]; dsimp only; rw [h]; exact h1
theorem wpc_sl {P : Cl} {mi : Nat} {me : Me} {Q : Option Value → St → Prop} : ∀ {n c pc c' pc' : Nat} {ls ls' : Lv} {st st' : List Value} {s s' : St}, csl P mi me n c pc ls st s = some (c', pc', ls', st', s') → wpc P mi me c' pc' ls' st' s' Q → wpc P mi me c pc ls st s Q := by
  intro n
  induction n with
  | zero => intro c pc c' pc' ls ls' st st' s s' h hq; cases h; exact hq
  | succ n ih =>
    intro c pc c' pc' ls ls' st st' s s' h hq
    simp only [csl] at h
    split at h
    · cases h
    · rename_i i m hf
      obtain ⟨c1, pc1, ls1, st1, s1, h1, h2⟩ := cstep_nat h
      exact wpc_one hf (fun rt cl k => h2 _ rt cl k) (ih h1 hq)
theorem wpc_ret {P : Cl} {mi : Nat} {me : Me} {c pc : Nat} {ls : Lv} {st : List Value} {s : St} {Q : Option Value → St → Prop} {i : Instr} {n : Nat} {v : Option Value} (hf : fetch me.cd pc = some (i, n)) (hr : isRet i = true) (hc : mi = 0 → c = P.al.length) (h : cret me st i = some v) (hq : Q v s) : wpc P mi me c pc ls st s Q := by
  refine ⟨1, v, s, ?_, hq⟩
  rw [cexec, hf]; dsimp only
  have hc' : ¬ (mi = 0 ∧ c ≠ P.al.length) := fun q => q.2 (hc q.1)
  cases i <;> first | (cases hr; done) | (simp only [cstep]; rw [if_pos hr, if_neg hc', h])
theorem wpc_if {P : Cl} {mi : Nat} {me : Me} {c pc a b : Nat} {ls : Lv} {r : List Value} {s : St} {Q : Option Value → St → Prop} {cd : ClassFile.Cond} {o : Int} {n : Nat} {x : Int32} (hf : fetch me.cd pc = some (.ifCond cd o, n)) (ho : 0 ≤ (pc : Int) + o) (ha : jmp pc o = a) (hb : pc + 3 = b)
    (hq : wpc P mi me c (br cd x 0 a b) ls r s Q) : wpc P mi me c pc ls (.int x :: r) s Q := by
  subst ha hb
  refine wpc_one hf (fun rt cl k => ?_) hq
  show (match pstep (.ifCond cd o) pc ls (.int x :: r) with | some (pc', ls', st') => k c pc' ls' st' s | none => none) = _
  simp only [pstep, qstep]; rw [if_pos ho]
theorem wpc_icmp {P : Cl} {mi : Nat} {me : Me} {c pc a b : Nat} {ls : Lv} {r : List Value} {s : St} {Q : Option Value → St → Prop} {cd : ClassFile.Cond} {o : Int} {n : Nat} {x y : Int32} (hf : fetch me.cd pc = some (.if_icmp cd o, n)) (ho : 0 ≤ (pc : Int) + o) (ha : jmp pc o = a) (hb : pc + 3 = b)
    (hq : wpc P mi me c (br cd x y a b) ls r s Q) : wpc P mi me c pc ls (.int y :: .int x :: r) s Q := by
  subst ha hb
  refine wpc_one hf (fun rt cl k => ?_) hq
  show (match pstep (.if_icmp cd o) pc ls (.int y :: .int x :: r) with | some (pc', ls', st') => k c pc' ls' st' s | none => none) = _
  simp only [pstep, qstep]; rw [if_pos ho]
/-- the two roads of a branch -/
theorem wpc_br {P : Cl} {mi : Nat} {me : Me} {c a b : Nat} {ls : Lv} {st : List Value} {s : St} {Q : Option Value → St → Prop} {p : Prop} [Decidable p] (h : (p → wpc P mi me c a ls st s Q) ∧ (¬ p → wpc P mi me c b ls st s Q)) : wpc P mi me c (if p then a else b) ls st s Q := by
  by_cases hp : p
  · rw [if_pos hp]; exact h.1 hp
  · rw [if_neg hp]; exact h.2 hp
theorem wpc_lda {P : Cl} {mi : Nat} {me : Me} {c pc a tt N : Nat} {ls : Lv} {r : List Value} {s : St} {Q : Option Value → St → Prop} {i : Instr} {n : Nat} {j : Int32} (hf : fetch me.cd pc = some (i, n)) (hi : (tt = 0 ∧ i = .iaload) ∨ (tt = 1 ∧ i = .baload) ∨ (tt = 2 ∧ i = .laload)) (ha : P.al[a]? = some (tt, N)) (hac : a < c)
    (hj : inb N j) (hq : wpc P mi me c (pc + 1) ls (elv tt s (a + 1) (ix j) :: r) s Q) : wpc P mi me c pc ls (.int j :: .ref (a + 1) :: r) s Q := by
  have hl : lda P tt c (.int j :: .ref (a + 1) :: r) s = some (elv tt s (a + 1) (ix j) :: r) := by
    simp only [lda, ha]; rw [if_pos ⟨trivial, hac⟩, if_pos hj]; rfl
  refine wpc_one hf (fun rt cl k => ?_) hq
  rcases hi with ⟨rfl, rfl⟩ | ⟨rfl, rfl⟩ | ⟨rfl, rfl⟩ <;> simp only [cstep, hl]
theorem wpc_sta {P : Cl} {mi : Nat} {me : Me} {c pc a tt N : Nat} {ls : Lv} {r : List Value} {s s' : St} {Q : Option Value → St → Prop} {i : Instr} {n : Nat} {j : Int32} {v : Value} (hf : fetch me.cd pc = some (i, n)) (hi : (tt = 0 ∧ i = .iastore ∧ ∃ z, v = .int z ∧ s' = sI s (a + 1) (ix j) z) ∨ (tt = 1 ∧ i = .bastore ∧ ∃ z, v = .int z ∧ s' = sI s (a + 1) (ix j) (z &&& 1)) ∨ (tt = 2 ∧ i = .lastore ∧ ∃ z, v = .long z ∧ s' = sL s (a + 1) (ix j) z)) (ha : P.al[a]? = some (tt, N)) (hac : a < c)
    (hj : inb N j) (hq : wpc P mi me c (pc + 1) ls r s' Q) : wpc P mi me c pc ls (v :: .int j :: .ref (a + 1) :: r) s Q := by
  have hl : sta P tt c (v :: .int j :: .ref (a + 1) :: r) s = some (r, s') := by
    simp only [sta, ha]; rw [if_pos ⟨trivial, hac⟩, if_pos hj]
    rcases hi with ⟨rfl, -, z, rfl, rfl⟩ | ⟨rfl, -, z, rfl, rfl⟩ | ⟨rfl, -, z, rfl, rfl⟩ <;> rfl
  refine wpc_one hf (fun rt cl k => ?_) hq
  rcases hi with ⟨rfl, rfl, -⟩ | ⟨rfl, rfl, -⟩ | ⟨rfl, rfl, -⟩ <;> simp only [cstep, hl]
theorem wpc_call {P : Cl} {mi : Nat} {me me' : Me} {c pc x m' : Nat} {ls : Lv} {st r as : List Value} {s : St} {Q : Option Value → St → Prop} {n : Nat} (hf : fetch me.cd pc = some (.invokevirtual x, n)) (hm : asc P.mx x = some m') (hme : asc P.ms m' = some me') (hst : st.drop me'.na = .ref 0 :: r) (has : (st.take me'.na).reverse = as)
    (hg : m' ≠ 0 ∧ me'.rf + 1 ≤ me.rf ∧ cats r + (me'.ml + 11) + me'.rl ≤ me.rl ∧ nd (st.take me'.na) = true)
    (hq : cal P m' c (.ref 0 :: as) s fun v s' => wpc P mi me c (pc + 3) ls (v.toList ++ r) s' Q) : wpc P mi me c pc ls st s Q := by
  subst has
  obtain ⟨f1, v, s1, h1, f2, v2, s2, h2, h3⟩ := hq
  refine ⟨max f1 f2 + 1, v2, s2, ?_, h3⟩
  have h1' := ccall_le (Nat.le_max_left f1 f2) h1
  have h2' := cexec_le (Nat.le_max_right f1 f2) h2
  rw [cexec, hf]; dsimp only
  simp only [cstep, hm, hme, hst]
  rw [if_pos hg]
  simp only [ccall, hme] at h1'
  rw [h1']
  cases v <;> exact h2'
theorem cal_of {P : Cl} {m' c : Nat} {as : List Value} {s : St} {Q : Option Value → St → Prop} {me : Me} {ls : Lv} (hme : asc P.ms m' = some me) (hl : (layA as).length ≤ me.ml) (hls : lay as me.ml = ls) (h : wpc P m' me c 0 ls [] s Q) : cal P m' c as s Q := by
  subst hls
  obtain ⟨f, v, s', h1, h2⟩ := h
  refine ⟨f, v, s', ?_, h2⟩
  simp only [ccall, hme]; rw [if_pos hl]; exact h1
theorem cal.mono {P : Cl} {m' c : Nat} {as : List Value} {s : St} {Q Q' : Option Value → St → Prop} (h : cal P m' c as s Q) (hq : ∀ v s', Q v s' → Q' v s') : cal P m' c as s Q' := by
  obtain ⟨f, v, s', h1, h2⟩ := h; exact ⟨f, v, s', h1, hq _ _ h2⟩
theorem calI.mono {P : Cl} {m' c : Nat} {as : List Value} {s : St} {Q Q' : Int32 → St → Prop} (h : calI P m' c as s Q) (hq : ∀ v s', Q v s' → Q' v s') : calI P m' c as s Q' := cal.mono h fun _ _ ⟨v, e, q⟩ => ⟨v, e, hq _ _ q⟩
theorem calL.mono {P : Cl} {m' c : Nat} {as : List Value} {s : St} {Q Q' : Int64 → St → Prop} (h : calL P m' c as s Q) (hq : ∀ v s', Q v s' → Q' v s') : calL P m' c as s Q' := cal.mono h fun _ _ ⟨v, e, q⟩ => ⟨v, e, hq _ _ q⟩
theorem calV.mono {P : Cl} {m' c : Nat} {as : List Value} {s : St} {Q Q' : St → Prop} (h : calV P m' c as s Q) (hq : ∀ s', Q s' → Q' s') : calV P m' c as s Q' := cal.mono h fun _ _ ⟨e, q⟩ => ⟨e, hq _ q⟩
theorem wpc.mono {P : Cl} {mi : Nat} {me : Me} {c pc : Nat} {ls : Lv} {st : List Value} {s : St} {Q Q' : Option Value → St → Prop} (h : wpc P mi me c pc ls st s Q) (hq : ∀ v s', Q v s' → Q' v s') : wpc P mi me c pc ls st s Q' := by
  obtain ⟨f, v, s', h1, h2⟩ := h; exact ⟨f, v, s', h1, hq _ _ h2⟩
theorem wpc_callI {P : Cl} {mi : Nat} {me me' : Me} {c pc x m' : Nat} {ls : Lv} {st r as : List Value} {s : St} {Q : Option Value → St → Prop} {n : Nat} (hf : fetch me.cd pc = some (.invokevirtual x, n)) (hm : asc P.mx x = some m') (hme : asc P.ms m' = some me') (hst : st.drop me'.na = .ref 0 :: r) (has : (st.take me'.na).reverse = as)
    (hg : m' ≠ 0 ∧ me'.rf + 1 ≤ me.rf ∧ cats r + (me'.ml + 11) + me'.rl ≤ me.rl ∧ nd (st.take me'.na) = true)
    (hq : calI P m' c (.ref 0 :: as) s fun v s' => wpc P mi me c (pc + 3) ls (.int v :: r) s' Q) : wpc P mi me c pc ls st s Q :=
  wpc_call hf hm hme hst has hg (cal.mono hq fun _ _ ⟨v, e, q⟩ => by subst e; exact q)
theorem wpc_callL {P : Cl} {mi : Nat} {me me' : Me} {c pc x m' : Nat} {ls : Lv} {st r as : List Value} {s : St} {Q : Option Value → St → Prop} {n : Nat} (hf : fetch me.cd pc = some (.invokevirtual x, n)) (hm : asc P.mx x = some m') (hme : asc P.ms m' = some me') (hst : st.drop me'.na = .ref 0 :: r) (has : (st.take me'.na).reverse = as)
    (hg : m' ≠ 0 ∧ me'.rf + 1 ≤ me.rf ∧ cats r + (me'.ml + 11) + me'.rl ≤ me.rl ∧ nd (st.take me'.na) = true)
    (hq : calL P m' c (.ref 0 :: as) s fun v s' => wpc P mi me c (pc + 3) ls (.long v :: r) s' Q) : wpc P mi me c pc ls st s Q :=
  wpc_call hf hm hme hst has hg (cal.mono hq fun _ _ ⟨v, e, q⟩ => by subst e; exact q)
theorem wpc_callV {P : Cl} {mi : Nat} {me me' : Me} {c pc x m' : Nat} {ls : Lv} {st r as : List Value} {s : St} {Q : Option Value → St → Prop} {n : Nat} (hf : fetch me.cd pc = some (.invokevirtual x, n)) (hm : asc P.mx x = some m') (hme : asc P.ms m' = some me') (hst : st.drop me'.na = .ref 0 :: r) (has : (st.take me'.na).reverse = as)
    (hg : m' ≠ 0 ∧ me'.rf + 1 ≤ me.rf ∧ cats r + (me'.ml + 11) + me'.rl ≤ me.rl ∧ nd (st.take me'.na) = true)
    (hq : calV P m' c (.ref 0 :: as) s fun s' => wpc P mi me c (pc + 3) ls r s' Q) : wpc P mi me c pc ls st s Q :=
  wpc_call hf hm hme hst has hg (cal.mono hq fun _ _ ⟨e, q⟩ => by subst e; exact q)
/-- both roads of a value -/
theorem wp_val {p : Prop} [Decidable p] {α : Sort _} {F : α → Prop} {x y : α} (h : F (if p then x else y)) : (p → F x) ∧ (¬ p → F y) := ⟨fun q => by rw [if_pos q] at h; exact h, fun q => by rw [if_neg q] at h; exact h⟩
end Jvm.LM

namespace Jvm.LM
open Sem ClassFile Op Lib Jvm.Stand Jvm.Free Jvm.LawKit Jvm.RoadKit
/-! variables that are not read any more -/
def lle (a b : Lv) : Prop := a.length = b.length ∧ ∀ (k : Nat) (v : Value), a[k]? = some (some v) → b[k]? = some (some v)
def lle' : Lv → Lv → Prop
  | [], [] => True
  | none :: a, _ :: b => lle' a b
  | some v :: a, w :: b => w = some v ∧ lle' a b
  | _, _ => False
theorem lle_of {a b : Lv} (h : lle' a b) : lle a b := by
  induction a generalizing b with
  | nil => cases b with
    | nil => exact ⟨rfl, fun k v hk => hk⟩
    | cons y b => cases h
  | cons x a ih =>
    cases b with
    | nil => cases x <;> cases h
    | cons y b =>
      cases x with
      | none =>
        obtain ⟨h1, h2⟩ := ih (b := b) h
        refine ⟨by simp [h1], fun k v hk => ?_⟩
        cases k with
        | zero => simp at hk
        | succ k => simp at hk ⊢; exact h2 k v hk
      | some x =>
        obtain ⟨e, h⟩ := h
        obtain ⟨h1, h2⟩ := ih (b := b) h
        subst e
        refine ⟨by simp [h1], fun k v hk => ?_⟩
        cases k with
        | zero => exact hk
        | succ k => simp at hk ⊢; exact h2 k v hk
theorem clr_lle {a b : Lv} (h : lle a b) (i : Nat) : (clr a i).length = (clr b i).length ∧ ∀ k v, k ≠ i → (clr a i)[k]? = some (some v) → (clr b i)[k]? = some (some v) := by
  refine ⟨by rw [clr_len, clr_len]; exact h.1, fun k v hk hv => ?_⟩
  obtain ⟨q1, q2⟩ := clr_get hv
  have q3 := h.2 _ _ q1
  cases i with
  | zero => exact q3
  | succ j =>
    simp only [clr]
    split
    · rename_i x e
      rw [List.getElem?_set]
      split
      · rename_i e2; subst e2
        rw [q3] at e; cases e
        exact absurd rfl (q2 rfl)
      · exact q3
    · rename_i x e
      rw [List.getElem?_set]
      split
      · rename_i e2; subst e2
        rw [q3] at e; cases e
        exact absurd rfl (q2 rfl)
      · exact q3
    · exact q3
theorem stl_lle {a b a' : Lv} (h : lle a b) {i : Nat} {v : Value} (hs : stl a i v = some a') : ∃ b', stl b i v = some b' ∧ lle a' b' := by
  obtain ⟨c1, c2⟩ := clr_lle h i
  have hl := h.1
  have one : ∀ w : Value, ∀ k u, ((clr a i).set i (some w))[k]? = some (some u) → ((clr b i).set i (some w))[k]? = some (some u) := fun w k u hk => by
    rw [List.getElem?_set] at hk ⊢
    split
    · rename_i e; rw [if_pos e] at hk; rw [← c1]; exact hk
    · rename_i e; rw [if_neg e] at hk; exact c2 k u (fun q => e q.symm) hk
  unfold stl at hs ⊢
  split at hs
  · rename_i x
    split at hs
    · rename_i q
      cases hs
      refine ⟨((clr b i).set i (some (.long x))).set (i + 1) none, if_pos (by rw [← hl]; exact q), by simp [c1], fun k u hk => ?_⟩
      rw [List.getElem?_set] at hk ⊢
      split
      · rename_i e; rw [if_pos e] at hk; split at hk <;> simp at hk
      · rename_i e; rw [if_neg e] at hk; exact one _ k u hk
    · cases hs
  · split at hs
    · rename_i q
      cases hs
      exact ⟨(clr b i).set i (some v), if_pos (by rw [← hl]; exact q), by simp [c1], fun k u hk => one _ k u hk⟩
    · cases hs
theorem pstep_lle {i : Instr} {pc pc' : Nat} {ls l1 ls' : Lv} {st st' : List Value} (h : pstep i pc ls st = some (pc', l1, st')) (hl : lle ls ls') : ∃ l1', pstep i pc ls' st = some (pc', l1', st') ∧ lle l1 l1' := by
  unfold pstep at h ⊢
  split at h
  all_goals (try dsimp only)
  iterate 6
    · split at h
      · rename_i e; cases h; rw [hl.2 _ _ e]; exact ⟨_, rfl, hl⟩
      · cases h
  iterate 6
    · split at h
      · split at h
        · rename_i e; cases h
          obtain ⟨b', q1, q2⟩ := stl_lle hl e
          rw [q1]; exact ⟨_, rfl, q2⟩
        · cases h
      · cases h
  · split at h
    · rename_i e0
      split at h
      · rename_i e; cases h
        obtain ⟨b', q1, q2⟩ := stl_lle hl e
        rw [hl.2 _ _ e0]; dsimp only; rw [q1]; exact ⟨_, rfl, q2⟩
      · cases h
    · cases h
  · split at h
    · cases h; exact ⟨_, rfl, hl⟩
    · cases h
theorem cstep_lle {P : Cl} {mi : Nat} {me : Me} {rt : Option Value → St → Rs} {cl : Nat → Nat → List Value → St → Rs} {k : Nat → Nat → Lv → List Value → St → Rs} {i : Instr} {c pc : Nat} {ls ls' : Lv} {st : List Value} {s : St} {r : Option Value × St} (hl : lle ls ls')
    (hk : ∀ c pc ls ls' st s, lle ls ls' → k c pc ls st s = some r → k c pc ls' st s = some r) (h : cstep P mi me rt cl k i c pc ls st s = some r) : cstep P mi me rt cl k i c pc ls' st s = some r := by
  unfold cstep at h ⊢
  split at h
  all_goals (try dsimp only)
  · split at h
    · split at h
      · exact hk _ _ _ _ _ _ hl h
      · cases h
    · cases h
  · split at h
    · split at h
      · exact hk _ _ _ _ _ _ hl h
      · cases h
    · cases h
  iterate 6
    · split at h
      · exact hk _ _ _ _ _ _ hl h
      · cases h
  · split at h
    · rename_i q; rw [if_pos q]; exact hk _ _ _ _ _ _ hl h
    · cases h
  iterate 2
    · split at h
      · exact hk _ _ _ _ _ _ hl h
      · cases h
  · split at h
    · split at h
      · rename_i q; rw [if_pos q]; exact hk _ _ _ _ _ _ hl h
      · cases h
    · cases h
  · split at h
    · cases h
    · split at h
      · cases h
      · split at h
        · split at h
          · rename_i q
            rw [if_pos q]
            split at h
            · exact hk _ _ _ _ _ _ hl h
            · exact hk _ _ _ _ _ _ hl h
            · cases h
          · cases h
        · cases h
  · split at h
    · rename_i q; rw [if_pos q]; exact h
    · rename_i q; rw [if_neg q]
      split at h
      · rename_i e
        obtain ⟨l1', q1, q2⟩ := pstep_lle e hl
        rw [q1]; exact hk _ _ _ _ _ _ q2 h
      · cases h
theorem cexec_lle {P : Cl} : ∀ f mi me c pc ls ls' st s r, lle ls ls' → cexec P f mi me c pc ls st s = some r → cexec P f mi me c pc ls' st s = some r := by
  intro f
  induction f with
  | zero => intro mi me c pc ls ls' st s r _ h; cases h
  | succ f ih =>
    intro mi me c pc ls ls' st s r hl h
    rw [cexec] at h ⊢
    split at h
    · cases h
    · exact cstep_lle hl (fun c pc ls ls' st s hl h => ih _ _ _ _ _ _ _ _ _ hl h) h
theorem wpc_lle {P : Cl} {mi : Nat} {me : Me} {c pc : Nat} {ls ls' : Lv} {st : List Value} {s : St} {Q : Option Value → St → Prop} (hl : lle' ls ls') (h : wpc P mi me c pc ls st s Q) : wpc P mi me c pc ls' st s Q := by
  obtain ⟨f, v, s', h1, h2⟩ := h; exact ⟨f, v, s', cexec_lle _ _ _ _ _ _ _ _ _ _ (lle_of hl) h1, h2⟩
end Jvm.LM

namespace Jvm.LM
open Sem ClassFile Op Lib Jvm.Stand Jvm.Free Jvm.LawKit Jvm.RoadKit
theorem lstep_mono {α : Type} {P : Cl} {Q : Lw} {sc : Sc} {mi : Nat} {me : Me} {rt : Option Value → Wd → Option α} {cc cc' : Nat → Nat → List Value → St → Rs} {cl cl' : Nat → List Value → Wd → Rw} {k k' : Nat → Lv → List Value → Wd → Option α} {i : Instr} {pc : Nat} {ls : Lv} {st : List Value} {w : Wd} {r : α}
    (hcc : ∀ m c as s r, cc m c as s = some r → cc' m c as s = some r) (hcl : ∀ m as s r, cl m as s = some r → cl' m as s = some r) (hk : ∀ pc ls st s r, k pc ls st s = some r → k' pc ls st s = some r) (h : lstep P Q sc mi me rt cc cl k i pc ls st w = some r) : lstep P Q sc mi me rt cc' cl' k' i pc ls st w = some r := by
  unfold lstep at h ⊢
  split at h
  all_goals (try dsimp only)
  · split at h
    · split at h
      · rename_i q; rw [if_pos q]; exact hk _ _ _ _ _ h
      · cases h
    · cases h
  · split at h
    · exact hk _ _ _ _ _ h
    · cases h
  · split at h
    · exact hk _ _ _ _ _ h
    · cases h
  · split at h
    · exact hk _ _ _ _ _ h
    · cases h
  · split at h
    · rename_i q; rw [if_pos q]; exact hk _ _ _ _ _ h
    · cases h
  · split at h
    · cases h
    · split at h
      · split at h
        · rename_i q
          rw [if_pos q]
          split at h
          · rename_i s1 hc; rw [hcc _ _ _ _ _ hc]; exact hk _ _ _ _ _ h
          · cases h
        · cases h
      · cases h
  · split at h
    · cases h
    · split at h
      · cases h
      · split at h
        · split at h
          · rename_i q
            rw [if_pos q]
            split at h
            · rename_i s1 hc; rw [hcc _ _ _ _ _ hc]; exact hk _ _ _ _ _ h
            · rename_i v1 s1 hc; rw [hcc _ _ _ _ _ hc]; exact hk _ _ _ _ _ h
            · cases h
          · cases h
        · cases h
  · split at h
    · cases h
    · split at h
      · cases h
      · split at h
        · rename_i q
          rw [if_pos q]
          split at h
          · rename_i s1 hc; rw [hcl _ _ _ _ hc]; exact hk _ _ _ _ _ h
          · rename_i v1 s1 hc; rw [hcl _ _ _ _ hc]; exact hk _ _ _ _ _ h
          · cases h
        · cases h
  · split at h
    · rename_i q; rw [if_pos q]; exact h
    · rename_i q; rw [if_neg q]
      split at h
      · exact hk _ _ _ _ _ h
      · cases h
theorem lexec_succ {P : Cl} {Q : Lw} {sc : Sc} : ∀ f mi me pc ls st w r, lexec P Q sc f mi me pc ls st w = some r → lexec P Q sc (f + 1) mi me pc ls st w = some r := by
  intro f
  induction f with
  | zero => intro mi me pc ls st s r h; cases h
  | succ f ih =>
    intro mi me pc ls st s r h
    rw [lexec] at h ⊢
    split at h
    · cases h
    · refine lstep_mono (fun m c as s r h => ccall_le (Nat.le_succ _) h) (fun m as s r h => ?_) (fun pc ls st s r h => ih _ _ _ _ _ _ _ h) h
      split at h
      · split at h
        · rename_i q; rw [if_pos q]; exact ih _ _ _ _ _ _ _ h
        · cases h
      · cases h
theorem lexec_le {P : Cl} {Q : Lw} {sc : Sc} {f g mi : Nat} {me : Me} {pc : Nat} {ls : Lv} {st : List Value} {w : Wd} {r : Option Value × Wd} (hfg : f ≤ g) (h : lexec P Q sc f mi me pc ls st w = some r) : lexec P Q sc g mi me pc ls st w = some r := by
  obtain ⟨d, rfl⟩ := Nat.le.dest hfg
  induction d with
  | zero => exact h
  | succ d ih => exact lexec_succ _ _ _ _ _ _ _ _ (ih (Nat.le_add_right _ _))
theorem lcall_le {P : Cl} {Q : Lw} {sc : Sc} {f g m' : Nat} {as : List Value} {w : Wd} {r : Option Value × Wd} (hfg : f ≤ g) (h : lcall P Q sc f m' as w = some r) : lcall P Q sc g m' as w = some r := by
  unfold lcall at h ⊢
  split at h
  · split at h
    · rename_i q; rw [if_pos q]; exact lexec_le hfg h
    · cases h
  · cases h
def wpl (P : Cl) (Q : Lw) (sc : Sc) (mi : Nat) (me : Me) (pc : Nat) (ls : Lv) (st : List Value) (w : Wd) (R : Option Value → Wd → Prop) : Prop := ∃ f v w', lexec P Q sc f mi me pc ls st w = some (v, w') ∧ R v w'
def lal (P : Cl) (Q : Lw) (sc : Sc) (m' : Nat) (as : List Value) (w : Wd) (R : Option Value → Wd → Prop) : Prop := ∃ f v w', lcall P Q sc f m' as w = some (v, w') ∧ R v w'
def lalI (P : Cl) (Q : Lw) (sc : Sc) (m' : Nat) (as : List Value) (w : Wd) (R : Int32 → Wd → Prop) : Prop := lal P Q sc m' as w fun r w' => ∃ v, r = some (.int v) ∧ R v w'
def lalL (P : Cl) (Q : Lw) (sc : Sc) (m' : Nat) (as : List Value) (w : Wd) (R : Int64 → Wd → Prop) : Prop := lal P Q sc m' as w fun r w' => ∃ v, r = some (.long v) ∧ R v w'
def lalV (P : Cl) (Q : Lw) (sc : Sc) (m' : Nat) (as : List Value) (w : Wd) (R : Wd → Prop) : Prop := lal P Q sc m' as w fun r w' => r = none ∧ R w'
theorem lal.mono {P : Cl} {Q : Lw} {sc : Sc} {m' : Nat} {as : List Value} {w : Wd} {R R' : Option Value → Wd → Prop} (h : lal P Q sc m' as w R) (hq : ∀ v s', R v s' → R' v s') : lal P Q sc m' as w R' := by
  obtain ⟨f, v, s', h1, h2⟩ := h; exact ⟨f, v, s', h1, hq _ _ h2⟩
theorem lalI.mono {P : Cl} {Q : Lw} {sc : Sc} {m' : Nat} {as : List Value} {w : Wd} {R R' : Int32 → Wd → Prop} (h : lalI P Q sc m' as w R) (hq : ∀ v s', R v s' → R' v s') : lalI P Q sc m' as w R' := lal.mono h fun _ _ ⟨v, e, q⟩ => ⟨v, e, hq _ _ q⟩
theorem lalL.mono {P : Cl} {Q : Lw} {sc : Sc} {m' : Nat} {as : List Value} {w : Wd} {R R' : Int64 → Wd → Prop} (h : lalL P Q sc m' as w R) (hq : ∀ v s', R v s' → R' v s') : lalL P Q sc m' as w R' := lal.mono h fun _ _ ⟨v, e, q⟩ => ⟨v, e, hq _ _ q⟩
theorem lalV.mono {P : Cl} {Q : Lw} {sc : Sc} {m' : Nat} {as : List Value} {w : Wd} {R R' : Wd → Prop} (h : lalV P Q sc m' as w R) (hq : ∀ s', R s' → R' s') : lalV P Q sc m' as w R' := lal.mono h fun _ _ ⟨e, q⟩ => ⟨e, hq _ q⟩
theorem wpl.mono {P : Cl} {Q : Lw} {sc : Sc} {mi : Nat} {me : Me} {pc : Nat} {ls : Lv} {st : List Value} {w : Wd} {R R' : Option Value → Wd → Prop} (h : wpl P Q sc mi me pc ls st w R) (hq : ∀ v s', R v s' → R' v s') : wpl P Q sc mi me pc ls st w R' := by
  obtain ⟨f, v, s', h1, h2⟩ := h; exact ⟨f, v, s', h1, hq _ _ h2⟩
theorem wpl_one {P : Cl} {Q : Lw} {sc : Sc} {mi : Nat} {me : Me} {pc pc' : Nat} {ls ls' : Lv} {st st' : List Value} {w w' : Wd} {R : Option Value → Wd → Prop} {i : Instr} {n : Nat} (hf : fetch me.cd pc = some (i, n))
    (h : ∀ (rt : Option Value → Wd → Rw) cc cl (k : Nat → Lv → List Value → Wd → Rw), lstep P Q sc mi me rt cc cl k i pc ls st w = k pc' ls' st' w') (hq : wpl P Q sc mi me pc' ls' st' w' R) : wpl P Q sc mi me pc ls st w R := by
  obtain ⟨f, v, s2, h1, h2⟩ := hq
  refine ⟨f + 1, v, s2, ?_, h2⟩
  rw [lexec, hf]; dsimp only; rw [h]; exact h1
/-- plain steps: nothing of the heap, no call -/
def isPl : Instr → Bool
  | .iaload => false | .arraylength => false | .ldc _ => false | .ldc2_w _ => false | .new _ => false | .invokespecial _ => false | .invokevirtual _ => false | .invokestatic _ => false
  | .ireturn => false | .lreturn => false | .return_ => false
  | _ => true
theorem lstep_pl {α : Type} {P : Cl} {Q : Lw} {sc : Sc} {mi : Nat} {me : Me} {rt : Option Value → Wd → Option α} {cc : Nat → Nat → List Value → St → Rs} {cl : Nat → List Value → Wd → Rw} {k : Nat → Lv → List Value → Wd → Option α} {i : Instr} {pc : Nat} {ls : Lv} {st : List Value} {w : Wd} (hi : isPl i = true) :
    lstep P Q sc mi me rt cc cl k i pc ls st w = match pstep i pc ls st with | some (pc', ls', st') => k pc' ls' st' w | none => none := by
  cases i <;> first | (cases hi; done) | rfl
def psl (kx : List (Nat × Value)) (cd : Cd) : Nat → Nat → Lv → List Value → Option (Nat × Lv × List Value)
  | 0, pc, ls, st => some (pc, ls, st)
  | n + 1, pc, ls, st => match fetch cd pc with
    | none => none
    | some (i, _) => match i with
      | .ldc x => (match asc kx x with | some (.int z) => psl kx cd n (pc + 2) ls (.int z :: st) | _ => none)
      | .ldc2_w x => (match asc kx x with | some (.long z) => psl kx cd n (pc + 3) ls (.long z :: st) | _ => none)
      | i => if isPl i = true then (match pstep i pc ls st with | some (pc', ls', st') => psl kx cd n pc' ls' st' | none => none) else none
theorem wpl_sl {P : Cl} {Q : Lw} {sc : Sc} {mi : Nat} {me : Me} {w : Wd} {R : Option Value → Wd → Prop} : ∀ {n pc pc' : Nat} {ls ls' : Lv} {st st' : List Value}, psl Q.kx me.cd n pc ls st = some (pc', ls', st') → wpl P Q sc mi me pc' ls' st' w R → wpl P Q sc mi me pc ls st w R := by
  intro n
  induction n with
  | zero => intro pc pc' ls ls' st st' h hq; cases h; exact hq
  | succ n ih =>
    intro pc pc' ls ls' st st' h hq
    simp only [psl] at h
    split at h
    · cases h
    · rename_i i m hf
      split at h
      · split at h
        · rename_i z e
          exact wpl_one hf (fun rt cc cl k => by simp only [lstep, e]) (ih h hq)
        · cases h
      · split at h
        · rename_i z e
          exact wpl_one hf (fun rt cc cl k => by simp only [lstep, e]) (ih h hq)
        · cases h
      · split at h
        · rename_i hi
          split at h
          · rename_i pc1 ls1 st1 e
            exact wpl_one hf (fun rt cc cl k => by rw [lstep_pl hi, e]) (ih h hq)
          · cases h
        · cases h
theorem wpl_ret {P : Cl} {Q : Lw} {sc : Sc} {mi : Nat} {me : Me} {pc : Nat} {ls : Lv} {st : List Value} {w : Wd} {R : Option Value → Wd → Prop} {i : Instr} {n : Nat} {v : Option Value} (hf : fetch me.cd pc = some (i, n)) (hr : isRet i = true) (h : cret me st i = some v) (hq : R v w) : wpl P Q sc mi me pc ls st w R := by
  refine ⟨1, v, w, ?_, hq⟩
  rw [lexec, hf]; dsimp only
  cases i <;> first | (cases hr; done) | (simp only [lstep]; rw [if_pos hr, h])
theorem wpl_if {P : Cl} {Q : Lw} {sc : Sc} {mi : Nat} {me : Me} {pc a b : Nat} {ls : Lv} {r : List Value} {w : Wd} {R : Option Value → Wd → Prop} {cd : ClassFile.Cond} {o : Int} {n : Nat} {x : Int32} (hf : fetch me.cd pc = some (.ifCond cd o, n)) (ho : 0 ≤ (pc : Int) + o) (ha : jmp pc o = a) (hb : pc + 3 = b)
    (hq : wpl P Q sc mi me (br cd x 0 a b) ls r w R) : wpl P Q sc mi me pc ls (.int x :: r) w R := by
  subst ha hb
  refine wpl_one hf (fun rt cc cl k => ?_) hq
  rw [lstep_pl rfl]
  simp only [pstep, qstep]; rw [if_pos ho]
theorem wpl_icmp {P : Cl} {Q : Lw} {sc : Sc} {mi : Nat} {me : Me} {pc a b : Nat} {ls : Lv} {r : List Value} {w : Wd} {R : Option Value → Wd → Prop} {cd : ClassFile.Cond} {o : Int} {n : Nat} {x y : Int32} (hf : fetch me.cd pc = some (.if_icmp cd o, n)) (ho : 0 ≤ (pc : Int) + o) (ha : jmp pc o = a) (hb : pc + 3 = b)
    (hq : wpl P Q sc mi me (br cd x y a b) ls r w R) : wpl P Q sc mi me pc ls (.int y :: .int x :: r) w R := by
  subst ha hb
  refine wpl_one hf (fun rt cc cl k => ?_) hq
  rw [lstep_pl rfl]
  simp only [pstep, qstep]; rw [if_pos ho]
theorem wpl_br {P : Cl} {Q : Lw} {sc : Sc} {mi : Nat} {me : Me} {a b : Nat} {ls : Lv} {st : List Value} {w : Wd} {R : Option Value → Wd → Prop} {p : Prop} [Decidable p] (h : (p → wpl P Q sc mi me a ls st w R) ∧ (¬ p → wpl P Q sc mi me b ls st w R)) : wpl P Q sc mi me (if p then a else b) ls st w R := by
  by_cases hp : p
  · rw [if_pos hp]; exact h.1 hp
  · rw [if_neg hp]; exact h.2 hp
theorem wpl_lda {P : Cl} {Q : Lw} {N : Nat} {g : Nat → Int32} {mi : Nat} {me : Me} {pc : Nat} {ls : Lv} {r : List Value} {w : Wd} {R : Option Value → Wd → Prop} {n : Nat} {j : Int32} (hf : fetch me.cd pc = some (.iaload, n)) (hj : inb N j) (hq : wpl P Q (some (N, g)) mi me (pc + 1) ls (.int (g (ix j)) :: r) w R) : wpl P Q (some (N, g)) mi me pc ls (.int j :: .ref 0 :: r) w R := by
  refine wpl_one hf (fun rt cc cl k => ?_) hq
  simp only [lstep]; rw [if_pos hj]
theorem wpl_len {P : Cl} {Q : Lw} {N : Nat} {g : Nat → Int32} {mi : Nat} {me : Me} {pc : Nat} {ls : Lv} {r : List Value} {w : Wd} {R : Option Value → Wd → Prop} {n : Nat} (hf : fetch me.cd pc = some (.arraylength, n)) (hq : wpl P Q (some (N, g)) mi me (pc + 1) ls (.int (Int32.ofNat N) :: r) w R) : wpl P Q (some (N, g)) mi me pc ls (.ref 0 :: r) w R := by
  refine wpl_one hf (fun rt cc cl k => ?_) hq
  simp only [lstep]
theorem wpl_new {P : Cl} {Q : Lw} {sc : Sc} {me : Me} {pc cnt : Nat} {ls : Lv} {st : List Value} {os : Nat → St} {R : Option Value → Wd → Prop} {n x : Nat} (hf : fetch me.cd pc = some (.new x, n)) (hx : x = Q.cx) (h1 : (cnt + 1) * (P.al.length + 1) ≤ Q.rc) (h2 : (cnt + 1) * (Q.nf + zs P.al P.al.length) ≤ Q.rs)
    (hq : wpl P Q sc 0 me (pc + 3) ls (.ref (cnt + 1) :: st) (uo os cnt s0, cnt, true) R) : wpl P Q sc 0 me pc ls st (os, cnt, false) R := by
  refine wpl_one hf (fun rt cc cl k => ?_) hq
  simp only [lstep]; rw [if_pos ⟨trivial, hx, trivial, h1, h2⟩]
theorem wpl_ctor {P : Cl} {Q : Lw} {sc : Sc} {me me' : Me} {pc cnt : Nat} {ls : Lv} {st r as : List Value} {os : Nat → St} {R : Option Value → Wd → Prop} {n x : Nat} (hf : fetch me.cd pc = some (.invokespecial x, n)) (hx : x = Q.ci) (hme : asc P.ms 0 = some me') (hst : st.drop me'.na = .ref (cnt + 1) :: r) (has : (st.take me'.na).reverse = as)
    (hg : me'.rf + 1 ≤ me.rf ∧ cats r + (me'.ml + 11) + me'.rl ≤ me.rl ∧ nr (st.take me'.na) = true ∧ (cnt + 1) * (P.al.length + 1) ≤ Q.rc ∧ (cnt + 1) * (Q.nf + zs P.al P.al.length) ≤ Q.rs)
    (hq : calV P 0 0 (.ref 0 :: as) (os cnt) fun s' => wpl P Q sc 0 me (pc + 3) ls r (uo os cnt s', cnt + 1, false) R) : wpl P Q sc 0 me pc ls st (os, cnt, true) R := by
  subst has
  obtain ⟨f1, v, s1, h1, rfl, f2, v2, s2, h2, h3⟩ := hq
  refine ⟨max f1 f2 + 1, v2, s2, ?_, h3⟩
  have h1' := ccall_le (Nat.le_max_left f1 f2) h1
  have h2' := lexec_le (Nat.le_max_right f1 f2) h2
  rw [lexec, hf]; dsimp only
  simp only [lstep, hme, hst]
  rw [if_pos ⟨hx, trivial, trivial, trivial, hg⟩, h1']
  exact h2'
theorem wpl_call {P : Cl} {Q : Lw} {sc : Sc} {mi : Nat} {me me' : Me} {pc x m' o : Nat} {ls : Lv} {st r as : List Value} {w : Wd} {R : Option Value → Wd → Prop} {n : Nat} (hf : fetch me.cd pc = some (.invokevirtual x, n)) (hm : asc Q.vx x = some m') (hme : asc P.ms m' = some me') (hst : st.drop me'.na = .ref (o + 1) :: r) (has : (st.take me'.na).reverse = as)
    (hg : m' ≠ 0 ∧ o < w.2.1 ∧ me'.rf + 1 ≤ me.rf ∧ cats r + (me'.ml + 11) + me'.rl ≤ me.rl ∧ nr (st.take me'.na) = true)
    (hq : cal P m' P.al.length (.ref 0 :: as) (w.1 o) fun v s' => wpl P Q sc mi me (pc + 3) ls (v.toList ++ r) (uo w.1 o s', w.2.1, w.2.2) R) : wpl P Q sc mi me pc ls st w R := by
  subst has
  obtain ⟨f1, v, s1, h1, f2, v2, s2, h2, h3⟩ := hq
  refine ⟨max f1 f2 + 1, v2, s2, ?_, h3⟩
  have h1' := ccall_le (Nat.le_max_left f1 f2) h1
  have h2' := lexec_le (Nat.le_max_right f1 f2) h2
  rw [lexec, hf]; dsimp only
  simp only [lstep, hm, hme, hst]
  rw [if_pos hg, h1']
  cases v <;> exact h2'
theorem wpl_stat {P : Cl} {Q : Lw} {sc : Sc} {mi : Nat} {me me' : Me} {pc x m' : Nat} {ls : Lv} {st r as : List Value} {w : Wd} {R : Option Value → Wd → Prop} {n : Nat} (hf : fetch me.cd pc = some (.invokestatic x, n)) (hm : asc Q.sx x = some m') (hme : asc Q.ms m' = some me') (hst : st.drop me'.na = r) (has : (st.take me'.na).reverse = as)
    (hg : m' ≠ 0 ∧ me'.na ≤ st.length ∧ me'.rf + 1 ≤ me.rf ∧ cats r + (me'.ml + 11) + me'.rl ≤ me.rl ∧ nd (st.take me'.na) = true)
    (hq : lal P Q sc m' as w fun v w' => wpl P Q sc mi me (pc + 3) ls (v.toList ++ r) w' R) : wpl P Q sc mi me pc ls st w R := by
  subst has hst
  obtain ⟨f1, v, s1, h1, f2, v2, s2, h2, h3⟩ := hq
  refine ⟨max f1 f2 + 1, v2, s2, ?_, h3⟩
  have h1' := lcall_le (Nat.le_max_left f1 f2) h1
  have h2' := lexec_le (Nat.le_max_right f1 f2) h2
  rw [lexec, hf]; dsimp only
  simp only [lstep, hm, hme]
  rw [if_pos hg]
  simp only [lcall, hme] at h1'
  rw [h1']
  cases v <;> exact h2'
theorem lal_of {P : Cl} {Q : Lw} {sc : Sc} {m' : Nat} {as : List Value} {w : Wd} {R : Option Value → Wd → Prop} {me : Me} {ls : Lv} (hme : asc Q.ms m' = some me) (hl : (layA as).length ≤ me.ml) (hls : lay as me.ml = ls) (h : wpl P Q sc m' me 0 ls [] w R) : lal P Q sc m' as w R := by
  subst hls
  obtain ⟨f, v, s', h1, h2⟩ := h
  refine ⟨f, v, s', ?_, h2⟩
  simp only [lcall, hme]; rw [if_pos hl]; exact h1
theorem lstep_lle {P : Cl} {Q : Lw} {sc : Sc} {mi : Nat} {me : Me} {rt : Option Value → Wd → Rw} {cc : Nat → Nat → List Value → St → Rs} {cl : Nat → List Value → Wd → Rw} {k : Nat → Lv → List Value → Wd → Rw} {i : Instr} {pc : Nat} {ls ls' : Lv} {st : List Value} {w : Wd} {r : Option Value × Wd} (hl : lle ls ls')
    (hk : ∀ pc ls ls' st s, lle ls ls' → k pc ls st s = some r → k pc ls' st s = some r) (h : lstep P Q sc mi me rt cc cl k i pc ls st w = some r) : lstep P Q sc mi me rt cc cl k i pc ls' st w = some r := by
  unfold lstep at h ⊢
  split at h
  all_goals (try dsimp only)
  · split at h
    · split at h
      · rename_i q; rw [if_pos q]; exact hk _ _ _ _ _ hl h
      · cases h
    · cases h
  iterate 3
    · split at h
      · exact hk _ _ _ _ _ hl h
      · cases h
  · split at h
    · rename_i q; rw [if_pos q]; exact hk _ _ _ _ _ hl h
    · cases h
  · split at h
    · cases h
    · split at h
      · split at h
        · rename_i q
          rw [if_pos q]
          split at h
          · exact hk _ _ _ _ _ hl h
          · cases h
        · cases h
      · cases h
  · split at h
    · cases h
    · split at h
      · cases h
      · split at h
        · split at h
          · rename_i q
            rw [if_pos q]
            split at h
            · exact hk _ _ _ _ _ hl h
            · exact hk _ _ _ _ _ hl h
            · cases h
          · cases h
        · cases h
  · split at h
    · cases h
    · split at h
      · cases h
      · split at h
        · rename_i q
          rw [if_pos q]
          split at h
          · exact hk _ _ _ _ _ hl h
          · exact hk _ _ _ _ _ hl h
          · cases h
        · cases h
  · split at h
    · rename_i q; rw [if_pos q]; exact h
    · rename_i q; rw [if_neg q]
      split at h
      · rename_i e
        obtain ⟨l1', q1, q2⟩ := pstep_lle e hl
        rw [q1]; exact hk _ _ _ _ _ q2 h
      · cases h
theorem lexec_lle {P : Cl} {Q : Lw} {sc : Sc} : ∀ f mi me pc ls ls' st w r, lle ls ls' → lexec P Q sc f mi me pc ls st w = some r → lexec P Q sc f mi me pc ls' st w = some r := by
  intro f
  induction f with
  | zero => intro mi me pc ls ls' st w r _ h; cases h
  | succ f ih =>
    intro mi me pc ls ls' st w r hl h
    rw [lexec] at h ⊢
    split at h
    · cases h
    · exact lstep_lle hl (fun pc ls ls' st s hl h => ih _ _ _ _ _ _ _ _ hl h) h
theorem wpl_lle {P : Cl} {Q : Lw} {sc : Sc} {mi : Nat} {me : Me} {pc : Nat} {ls ls' : Lv} {st : List Value} {w : Wd} {R : Option Value → Wd → Prop} (hl : lle' ls ls') (h : wpl P Q sc mi me pc ls st w R) : wpl P Q sc mi me pc ls' st w R := by
  obtain ⟨f, v, s', h1, h2⟩ := h; exact ⟨f, v, s', lexec_lle _ _ _ _ _ _ _ _ _ (lle_of hl) h1, h2⟩
/-! worlds of no, one and two objects -/
def W0 : Wd := (fun _ => s0, 0, false)
def W0p : Wd := (uo (fun _ => s0) 0 s0, 0, true)
def W1 (s : St) : Wd := (uo (fun _ => s0) 0 s, 1, false)
def W1p (s : St) : Wd := (uo (uo (fun _ => s0) 0 s) 1 s0, 1, true)
def W2 (s t : St) : Wd := (uo (uo (fun _ => s0) 0 s) 1 t, 2, false)
theorem uo_uo (f : Nat → St) (o : Nat) (s t : St) : uo (uo f o s) o t = uo f o t := by
  funext i; simp only [uo]; split <;> rfl
theorem uo_swap (f : Nat → St) {o o' : Nat} (h : o ≠ o') (s t : St) : uo (uo f o s) o' t = uo (uo f o' t) o s := by
  funext i; simp only [uo]
  by_cases a : i = o
  · subst a; simp [h]
  · by_cases b : i = o'
    · subst b; simp [Ne.symm h]
    · simp [a, b]
section Worlds
variable {P : Cl} {Q : Lw} {sc : Sc} {mi : Nat} {me me' : Me} {pc x m' : Nat} {ls : Lv} {st r as : List Value} {R : Option Value → Wd → Prop} {n : Nat} {s t : St}
theorem wpl_new0 (hf : fetch me.cd pc = some (.new x, n)) (hx : x = Q.cx) (h1 : 1 * (P.al.length + 1) ≤ Q.rc) (h2 : 1 * (Q.nf + zs P.al P.al.length) ≤ Q.rs) (hq : wpl P Q sc 0 me (pc + 3) ls (.ref 1 :: st) W0p R) : wpl P Q sc 0 me pc ls st W0 R := wpl_new (cnt := 0) hf hx h1 h2 hq
theorem wpl_new1 (hf : fetch me.cd pc = some (.new x, n)) (hx : x = Q.cx) (h1 : 2 * (P.al.length + 1) ≤ Q.rc) (h2 : 2 * (Q.nf + zs P.al P.al.length) ≤ Q.rs) (hq : wpl P Q sc 0 me (pc + 3) ls (.ref 2 :: st) (W1p s) R) : wpl P Q sc 0 me pc ls st (W1 s) R := wpl_new (cnt := 1) hf hx h1 h2 hq
theorem wpl_ctor0 (hf : fetch me.cd pc = some (.invokespecial x, n)) (hx : x = Q.ci) (hme : asc P.ms 0 = some me') (hst : st.drop me'.na = .ref 1 :: r) (has : (st.take me'.na).reverse = as)
    (hg : me'.rf + 1 ≤ me.rf ∧ cats r + (me'.ml + 11) + me'.rl ≤ me.rl ∧ nr (st.take me'.na) = true ∧ 1 * (P.al.length + 1) ≤ Q.rc ∧ 1 * (Q.nf + zs P.al P.al.length) ≤ Q.rs)
    (hq : calV P 0 0 (.ref 0 :: as) s0 fun s' => wpl P Q sc 0 me (pc + 3) ls r (W1 s') R) : wpl P Q sc 0 me pc ls st W0p R := by
  refine wpl_ctor (cnt := 0) hf hx hme hst has hg ?_
  refine calV.mono (show calV P 0 0 (.ref 0 :: as) (uo (fun _ => s0) 0 s0 0) _ from hq) fun s' h => ?_
  rw [uo_uo]; exact h
theorem wpl_ctor1 (hf : fetch me.cd pc = some (.invokespecial x, n)) (hx : x = Q.ci) (hme : asc P.ms 0 = some me') (hst : st.drop me'.na = .ref 2 :: r) (has : (st.take me'.na).reverse = as)
    (hg : me'.rf + 1 ≤ me.rf ∧ cats r + (me'.ml + 11) + me'.rl ≤ me.rl ∧ nr (st.take me'.na) = true ∧ 2 * (P.al.length + 1) ≤ Q.rc ∧ 2 * (Q.nf + zs P.al P.al.length) ≤ Q.rs)
    (hq : calV P 0 0 (.ref 0 :: as) s0 fun s' => wpl P Q sc 0 me (pc + 3) ls r (W2 s s') R) : wpl P Q sc 0 me pc ls st (W1p s) R := by
  refine wpl_ctor (cnt := 1) hf hx hme hst has hg ?_
  refine calV.mono (show calV P 0 0 (.ref 0 :: as) (uo (uo (fun _ => s0) 0 s) 1 s0 1) _ from hq) fun s' h => ?_
  rw [uo_uo]; exact h
theorem wpl_v1 (hf : fetch me.cd pc = some (.invokevirtual x, n)) (hm : asc Q.vx x = some m') (hme : asc P.ms m' = some me') (hst : st.drop me'.na = .ref 1 :: r) (has : (st.take me'.na).reverse = as)
    (hg : m' ≠ 0 ∧ me'.rf + 1 ≤ me.rf ∧ cats r + (me'.ml + 11) + me'.rl ≤ me.rl ∧ nr (st.take me'.na) = true)
    (hq : cal P m' P.al.length (.ref 0 :: as) s fun v s' => wpl P Q sc mi me (pc + 3) ls (v.toList ++ r) (W1 s') R) : wpl P Q sc mi me pc ls st (W1 s) R := by
  refine wpl_call (o := 0) hf hm hme hst has ⟨hg.1, by show 0 < 1; decide, hg.2⟩ ?_
  refine cal.mono (show cal P m' P.al.length (.ref 0 :: as) ((W1 s).1 0) _ from hq) fun v s' h => ?_
  show wpl P Q sc mi me (pc + 3) ls (v.toList ++ r) (uo (uo (fun _ => s0) 0 s) 0 s', 1, false) R
  rw [uo_uo]; exact h
theorem wpl_v2a (hf : fetch me.cd pc = some (.invokevirtual x, n)) (hm : asc Q.vx x = some m') (hme : asc P.ms m' = some me') (hst : st.drop me'.na = .ref 1 :: r) (has : (st.take me'.na).reverse = as)
    (hg : m' ≠ 0 ∧ me'.rf + 1 ≤ me.rf ∧ cats r + (me'.ml + 11) + me'.rl ≤ me.rl ∧ nr (st.take me'.na) = true)
    (hq : cal P m' P.al.length (.ref 0 :: as) s fun v s' => wpl P Q sc mi me (pc + 3) ls (v.toList ++ r) (W2 s' t) R) : wpl P Q sc mi me pc ls st (W2 s t) R := by
  refine wpl_call (o := 0) hf hm hme hst has ⟨hg.1, by show 0 < 2; decide, hg.2⟩ ?_
  refine cal.mono (show cal P m' P.al.length (.ref 0 :: as) ((W2 s t).1 0) _ from hq) fun v s' h => ?_
  show wpl P Q sc mi me (pc + 3) ls (v.toList ++ r) (uo (uo (uo (fun _ => s0) 0 s) 1 t) 0 s', 2, false) R
  rw [uo_swap _ (by decide), uo_uo]; exact h
theorem wpl_v2b (hf : fetch me.cd pc = some (.invokevirtual x, n)) (hm : asc Q.vx x = some m') (hme : asc P.ms m' = some me') (hst : st.drop me'.na = .ref 2 :: r) (has : (st.take me'.na).reverse = as)
    (hg : m' ≠ 0 ∧ me'.rf + 1 ≤ me.rf ∧ cats r + (me'.ml + 11) + me'.rl ≤ me.rl ∧ nr (st.take me'.na) = true)
    (hq : cal P m' P.al.length (.ref 0 :: as) t fun v s' => wpl P Q sc mi me (pc + 3) ls (v.toList ++ r) (W2 s s') R) : wpl P Q sc mi me pc ls st (W2 s t) R := by
  refine wpl_call (o := 1) hf hm hme hst has ⟨hg.1, by show 1 < 2; decide, hg.2⟩ ?_
  refine cal.mono (show cal P m' P.al.length (.ref 0 :: as) ((W2 s t).1 1) _ from hq) fun v s' h => ?_
  show wpl P Q sc mi me (pc + 3) ls (v.toList ++ r) (uo (uo (uo (fun _ => s0) 0 s) 1 t) 1 s', 2, false) R
  rw [uo_uo]; exact h
end Worlds
theorem cal_I {P : Cl} {m' c : Nat} {as : List Value} {s : St} {F : Option Value → St → Prop} (h : calI P m' c as s fun v s' => F (some (.int v)) s') : cal P m' c as s F := cal.mono h fun _ _ ⟨v, e, q⟩ => by subst e; exact q
theorem cal_L {P : Cl} {m' c : Nat} {as : List Value} {s : St} {F : Option Value → St → Prop} (h : calL P m' c as s fun v s' => F (some (.long v)) s') : cal P m' c as s F := cal.mono h fun _ _ ⟨v, e, q⟩ => by subst e; exact q
theorem cal_V {P : Cl} {m' c : Nat} {as : List Value} {s : St} {F : Option Value → St → Prop} (h : calV P m' c as s fun s' => F none s') : cal P m' c as s F := cal.mono h fun _ _ ⟨e, q⟩ => by subst e; exact q
theorem lal_I {P : Cl} {Q : Lw} {sc : Sc} {m' : Nat} {as : List Value} {w : Wd} {F : Option Value → Wd → Prop} (h : lalI P Q sc m' as w fun v w' => F (some (.int v)) w') : lal P Q sc m' as w F := lal.mono h fun _ _ ⟨v, e, q⟩ => by subst e; exact q
theorem lal_L {P : Cl} {Q : Lw} {sc : Sc} {m' : Nat} {as : List Value} {w : Wd} {F : Option Value → Wd → Prop} (h : lalL P Q sc m' as w fun v w' => F (some (.long v)) w') : lal P Q sc m' as w F := lal.mono h fun _ _ ⟨v, e, q⟩ => by subst e; exact q
theorem lal_V {P : Cl} {Q : Lw} {sc : Sc} {m' : Nat} {as : List Value} {w : Wd} {F : Option Value → Wd → Prop} (h : lalV P Q sc m' as w fun w' => F none w') : lal P Q sc m' as w F := lal.mono h fun _ _ ⟨e, q⟩ => by subst e; exact q
end Jvm.LM

namespace Jvm.LM
open Sem ClassFile Op Lib Jvm.Stand Jvm.Free Jvm.LawKit Jvm.RoadKit
/-! rules for the steps that ask something -/
abbrev wpcI (P : Cl) (mi : Nat) (me : Me) (c pc : Nat) (ls : Lv) (st : List Value) (s : St) (Q : Int32 → St → Prop) : Prop := wpc P mi me c pc ls st s fun r s' => ∃ v, r = some (.int v) ∧ Q v s'
abbrev wpcL (P : Cl) (mi : Nat) (me : Me) (c pc : Nat) (ls : Lv) (st : List Value) (s : St) (Q : Int64 → St → Prop) : Prop := wpc P mi me c pc ls st s fun r s' => ∃ v, r = some (.long v) ∧ Q v s'
abbrev wpcV (P : Cl) (mi : Nat) (me : Me) (c pc : Nat) (ls : Lv) (st : List Value) (s : St) (Q : St → Prop) : Prop := wpc P mi me c pc ls st s fun r s' => r = none ∧ Q s'
abbrev wplI (P : Cl) (Q : Lw) (sc : Sc) (mi : Nat) (me : Me) (pc : Nat) (ls : Lv) (st : List Value) (w : Wd) (R : Int32 → Wd → Prop) : Prop := wpl P Q sc mi me pc ls st w fun r w' => ∃ v, r = some (.int v) ∧ R v w'
abbrev wplL (P : Cl) (Q : Lw) (sc : Sc) (mi : Nat) (me : Me) (pc : Nat) (ls : Lv) (st : List Value) (w : Wd) (R : Int64 → Wd → Prop) : Prop := wpl P Q sc mi me pc ls st w fun r w' => ∃ v, r = some (.long v) ∧ R v w'
abbrev wplV (P : Cl) (Q : Lw) (sc : Sc) (mi : Nat) (me : Me) (pc : Nat) (ls : Lv) (st : List Value) (w : Wd) (R : Wd → Prop) : Prop := wpl P Q sc mi me pc ls st w fun r w' => r = none ∧ R w'
section C
variable {P : Cl} {mi : Nat} {me : Me} {c pc a N n : Nat} {ls : Lv} {r : List Value} {s s' : St} {Q : Option Value → St → Prop} {j : Int32}
theorem wpc_ldaI {v : Int32} (hf : fetch me.cd pc = some (.iaload, n)) (ha : P.al[a]? = some (0, N)) (hac : a < c) (hj : inb N j) (hv : gI s (a + 1) (ix j) = v) (hq : wpc P mi me c (pc + 1) ls (.int v :: r) s Q) : wpc P mi me c pc ls (.int j :: .ref (a + 1) :: r) s Q := by
  subst hv; exact wpc_lda hf (Or.inl ⟨rfl, rfl⟩) ha hac hj hq
theorem wpc_ldaZ {v : Int32} (hf : fetch me.cd pc = some (.baload, n)) (ha : P.al[a]? = some (1, N)) (hac : a < c) (hj : inb N j) (hv : gI s (a + 1) (ix j) = v) (hq : wpc P mi me c (pc + 1) ls (.int v :: r) s Q) : wpc P mi me c pc ls (.int j :: .ref (a + 1) :: r) s Q := by
  subst hv; exact wpc_lda hf (Or.inr (Or.inl ⟨rfl, rfl⟩)) ha hac hj hq
theorem wpc_ldaJ {v : Int64} (hf : fetch me.cd pc = some (.laload, n)) (ha : P.al[a]? = some (2, N)) (hac : a < c) (hj : inb N j) (hv : gL s (a + 1) (ix j) = v) (hq : wpc P mi me c (pc + 1) ls (.long v :: r) s Q) : wpc P mi me c pc ls (.int j :: .ref (a + 1) :: r) s Q := by
  subst hv; exact wpc_lda hf (Or.inr (Or.inr ⟨rfl, rfl⟩)) ha hac hj hq
theorem wpc_staI {z : Int32} (hf : fetch me.cd pc = some (.iastore, n)) (ha : P.al[a]? = some (0, N)) (hac : a < c) (hj : inb N j) (hs : sI s (a + 1) (ix j) z = s') (hq : wpc P mi me c (pc + 1) ls r s' Q) : wpc P mi me c pc ls (.int z :: .int j :: .ref (a + 1) :: r) s Q :=
  wpc_sta hf (Or.inl ⟨rfl, rfl, z, rfl, hs.symm⟩) ha hac hj hq
theorem wpc_staZ {z : Int32} (hf : fetch me.cd pc = some (.bastore, n)) (ha : P.al[a]? = some (1, N)) (hac : a < c) (hj : inb N j) (hs : sI s (a + 1) (ix j) (z &&& 1) = s') (hq : wpc P mi me c (pc + 1) ls r s' Q) : wpc P mi me c pc ls (.int z :: .int j :: .ref (a + 1) :: r) s Q :=
  wpc_sta hf (Or.inr (Or.inl ⟨rfl, rfl, z, rfl, hs.symm⟩)) ha hac hj hq
theorem wpc_staJ {z : Int64} (hf : fetch me.cd pc = some (.lastore, n)) (ha : P.al[a]? = some (2, N)) (hac : a < c) (hj : inb N j) (hs : sL s (a + 1) (ix j) z = s') (hq : wpc P mi me c (pc + 1) ls r s' Q) : wpc P mi me c pc ls (.long z :: .int j :: .ref (a + 1) :: r) s Q :=
  wpc_sta hf (Or.inr (Or.inr ⟨rfl, rfl, z, rfl, hs.symm⟩)) ha hac hj hq
theorem wpc_pl {i : Instr} {pc' : Nat} {ls' : Lv} {st st' : List Value} (hf : fetch me.cd pc = some (i, n)) (hi : ∀ (rt : Option Value → St → Rs) cl (k : Nat → Nat → Lv → List Value → St → Rs), cstep P mi me rt cl k i c pc ls st s = match pstep i pc ls st with | some (pc', ls', st') => k c pc' ls' st' s | none => none) (h : pstep i pc ls st = some (pc', ls', st')) (hq : wpc P mi me c pc' ls' st' s Q) : wpc P mi me c pc ls st s Q :=
  wpc_one hf (fun rt cl k => by rw [hi, h]) hq
theorem wpc_idiv {x y : Int32} (hf : fetch me.cd pc = some (.idiv, n)) (hy : ¬ y = 0) (hq : wpc P mi me c (pc + 1) ls (.int (x / y) :: r) s Q) : wpc P mi me c pc ls (.int y :: .int x :: r) s Q :=
  wpc_pl hf (fun _ _ _ => rfl) (by simp only [pstep, qstep]; rw [if_neg hy]) hq
theorem wpc_irem {x y : Int32} (hf : fetch me.cd pc = some (.irem, n)) (hy : ¬ y = 0) (hq : wpc P mi me c (pc + 1) ls (.int (x % y) :: r) s Q) : wpc P mi me c pc ls (.int y :: .int x :: r) s Q :=
  wpc_pl hf (fun _ _ _ => rfl) (by simp only [pstep, qstep]; rw [if_neg hy]) hq
theorem wpc_ldiv {x y : Int64} (hf : fetch me.cd pc = some (.ldiv, n)) (hy : ¬ y = 0) (hq : wpc P mi me c (pc + 1) ls (.long (x / y) :: r) s Q) : wpc P mi me c pc ls (.long y :: .long x :: r) s Q :=
  wpc_pl hf (fun _ _ _ => rfl) (by simp only [pstep, qstep]; rw [if_neg hy]) hq
end C
/-- the roads of a switch: one a value, from l on -/
def TS (x : Int32) (F : Int → Prop) : List Int → Int → Prop
  | [], _ => True
  | o :: r, l => (x.toInt = l → F o) ∧ TS x F r (l + 1)
theorem TS_at {x : Int32} {F : Int → Prop} : ∀ {os : List Int} {l : Int}, TS x F os l → l ≤ x.toInt → x.toInt < l + os.length → ∃ o, os[(x.toInt - l).toNat]? = some o ∧ F o := by
  intro os
  induction os with
  | nil => intro l _ h1 h2; simp at h2; omega
  | cons o r ih =>
    intro l h h1 h2
    by_cases e : x.toInt = l
    · exact ⟨o, by rw [e]; simp, h.1 e⟩
    · obtain ⟨o', q1, q2⟩ := ih h.2 (by omega) (by simp at h2; omega)
      refine ⟨o', ?_, q2⟩
      have : (x.toInt - l).toNat = (x.toInt - (l + 1)).toNat + 1 := by omega
      rw [this]; simpa using q1
theorem tsw_ok {x : Int32} {F : Int → Prop} {pc : Nat} {ls : Lv} {r : List Value} {d lo hi : Int} {offs : Array Int} (hd : 0 ≤ (pc : Int) + d) (ho : ∀ o ∈ offs.toList, 0 ≤ (pc : Int) + o) (hh : hi + 1 = lo + offs.toList.length)
    (h1 : TS x F offs.toList lo) (h2 : (x.toInt < lo ∨ x.toInt > hi) → F d) : ∃ o, F o ∧ pstep (.tableswitch d lo hi offs) pc ls (.int x :: r) = some (jmp pc o, ls, r) := by
  by_cases hx : x.toInt < lo ∨ x.toInt > hi
  · refine ⟨d, h2 hx, ?_⟩
    simp only [pstep, qstep]; rw [if_pos hx, if_pos hd]
  · obtain ⟨o, q1, q2⟩ := TS_at h1 (by omega) (by omega)
    have q3 : offs[(x.toInt - lo).toNat]? = some o := by rw [← Array.getElem?_toList]; exact q1
    refine ⟨o, q2, ?_⟩
    simp only [pstep, qstep]; rw [if_neg hx, q3]; dsimp only; rw [if_pos (ho o (List.mem_of_getElem? q1))]
theorem wpc_tsw {P : Cl} {mi : Nat} {me : Me} {c pc n : Nat} {ls : Lv} {r : List Value} {s : St} {Q : Option Value → St → Prop} {x : Int32} {d lo hi : Int} {offs : Array Int} (hf : fetch me.cd pc = some (.tableswitch d lo hi offs, n)) (hd : 0 ≤ (pc : Int) + d) (ho : ∀ o ∈ offs.toList, 0 ≤ (pc : Int) + o) (hh : hi + 1 = lo + offs.toList.length)
    (h1 : TS x (fun o => wpc P mi me c (jmp pc o) ls r s Q) offs.toList lo) (h2 : (x.toInt < lo ∨ x.toInt > hi) → wpc P mi me c (jmp pc d) ls r s Q) : wpc P mi me c pc ls (.int x :: r) s Q := by
  obtain ⟨o, q1, q2⟩ := tsw_ok (ls := ls) (r := r) hd ho hh h1 h2
  exact wpc_pl hf (fun _ _ _ => rfl) q2 q1
section L
variable {P : Cl} {Q : Lw} {sc : Sc} {mi : Nat} {me : Me} {pc n : Nat} {ls : Lv} {r : List Value} {w : Wd} {R : Option Value → Wd → Prop}
theorem wpl_pl {i : Instr} {pc' : Nat} {ls' : Lv} {st st' : List Value} (hf : fetch me.cd pc = some (i, n)) (hi : isPl i = true) (h : pstep i pc ls st = some (pc', ls', st')) (hq : wpl P Q sc mi me pc' ls' st' w R) : wpl P Q sc mi me pc ls st w R :=
  wpl_one hf (fun rt cc cl k => by rw [lstep_pl hi, h]) hq
theorem wpl_idiv {x y : Int32} (hf : fetch me.cd pc = some (.idiv, n)) (hy : ¬ y = 0) (hq : wpl P Q sc mi me (pc + 1) ls (.int (x / y) :: r) w R) : wpl P Q sc mi me pc ls (.int y :: .int x :: r) w R :=
  wpl_pl hf rfl (by simp only [pstep, qstep]; rw [if_neg hy]) hq
theorem wpl_irem {x y : Int32} (hf : fetch me.cd pc = some (.irem, n)) (hy : ¬ y = 0) (hq : wpl P Q sc mi me (pc + 1) ls (.int (x % y) :: r) w R) : wpl P Q sc mi me pc ls (.int y :: .int x :: r) w R :=
  wpl_pl hf rfl (by simp only [pstep, qstep]; rw [if_neg hy]) hq
theorem wpl_ldiv {x y : Int64} (hf : fetch me.cd pc = some (.ldiv, n)) (hy : ¬ y = 0) (hq : wpl P Q sc mi me (pc + 1) ls (.long (x / y) :: r) w R) : wpl P Q sc mi me pc ls (.long y :: .long x :: r) w R :=
  wpl_pl hf rfl (by simp only [pstep, qstep]; rw [if_neg hy]) hq
theorem wpl_tsw {x : Int32} {d lo hi : Int} {offs : Array Int} (hf : fetch me.cd pc = some (.tableswitch d lo hi offs, n)) (hd : 0 ≤ (pc : Int) + d) (ho : ∀ o ∈ offs.toList, 0 ≤ (pc : Int) + o) (hh : hi + 1 = lo + offs.toList.length)
    (h1 : TS x (fun o => wpl P Q sc mi me (jmp pc o) ls r w R) offs.toList lo) (h2 : (x.toInt < lo ∨ x.toInt > hi) → wpl P Q sc mi me (jmp pc d) ls r w R) : wpl P Q sc mi me pc ls (.int x :: r) w R := by
  obtain ⟨o, q1, q2⟩ := tsw_ok (ls := ls) (r := r) hd ho hh h1 h2
  exact wpl_pl hf rfl q2 q1
end L
/-! the links, by lists -/
def AllA {α : Type} (Q : Nat → α → Prop) : List (Nat × α) → Prop
  | [] => True
  | (a, b) :: r => Q a b ∧ AllA Q r
theorem asc_all {α : Type} {Q : Nat → α → Prop} {l : List (Nat × α)} (h : AllA Q l) : ∀ k v, asc l k = some v → Q k v := by
  induction l with
  | nil => intro k v e; cases e
  | cons x r ih =>
    intro k v e
    obtain ⟨a, b⟩ := x
    simp only [asc] at e
    cases q : Nat.beq a k
    · rw [q] at e; exact ih h.2 k v e
    · rw [q] at e; cases e
      obtain rfl := Nat.eq_of_beq_eq_true q
      exact h.1
def AllL (Q : Nat → Nat → Prop) : List (Nat × Nat) → Prop
  | [] => True
  | (a, b) :: r => Q a b ∧ AllL Q r
theorem lst_all {Q : Nat → Nat → Prop} {l : List (Nat × Nat)} (h : AllL Q l) : ∀ (j tt N : Nat), l[j]? = some (tt, N) → Q tt N := by
  induction l with
  | nil => intro j tt N e; simp at e
  | cons x r ih =>
    intro j tt N e
    obtain ⟨a, b⟩ := x
    cases j with
    | zero => simp at e; obtain ⟨rfl, rfl⟩ := e; exact h.1
    | succ j => simp at e; exact ih h.2 j tt N e
def dst1 (k : Nat) (fe : Fe) : List (Nat × Fe) → Bool
  | [] => true
  | (k', fe') :: r => (!(fe.1 == fe'.1)) && (decide (fe.2.2.1 < 3) || !(Nat.beq fe.2.2.1 fe'.2.2.1)) && dst1 k fe r
def dst : List (Nat × Fe) → Bool
  | [] => true
  | (k, fe) :: r => dst1 k fe r && dst r
theorem dst1_ok {k : Nat} {fe : Fe} {l : List (Nat × Fe)} (h : dst1 k fe l = true) : ∀ k' fe', asc l k' = some fe' → fe.1 ≠ fe'.1 ∧ (3 ≤ fe.2.2.1 → fe.2.2.1 ≠ fe'.2.2.1) := by
  induction l with
  | nil => intro k' fe' e; cases e
  | cons x r ih =>
    intro k' fe' e
    obtain ⟨a, b⟩ := x
    simp only [dst1, Bool.and_eq_true] at h
    obtain ⟨⟨h1, h2⟩, h3⟩ := h
    simp only [asc] at e
    cases q : Nat.beq a k'
    · rw [q] at e; exact ih h3 k' fe' e
    · rw [q] at e; cases e
      refine ⟨fun q2 => by rw [q2] at h1; simp at h1, fun q2 q3 => ?_⟩
      rw [q3] at h2 q2
      simp only [Bool.or_eq_true, decide_eq_true_eq, Bool.not_eq_true'] at h2
      rcases h2 with h2 | h2
      · omega
      · rw [Nat.beq_refl] at h2; cases h2
theorem dst_ok {l : List (Nat × Fe)} (h : dst l = true) : ∀ (k k' : Nat) (fe fe' : Fe), asc l k = some fe → asc l k' = some fe' → k ≠ k' → fe.1 ≠ fe'.1 ∧ (3 ≤ fe.2.2.1 → fe.2.2.1 ≠ fe'.2.2.1) := by
  induction l with
  | nil => intro k k' fe fe' e; cases e
  | cons x r ih =>
    intro k k' fe fe' e e' hne
    obtain ⟨a, b⟩ := x
    simp only [dst, Bool.and_eq_true] at h
    simp only [asc] at e e'
    cases q : Nat.beq a k <;> cases q' : Nat.beq a k' <;> rw [q] at e <;> rw [q'] at e'
    · exact ih h.2 k k' fe fe' e e' hne
    · cases e'
      obtain ⟨h1, h2⟩ := dst1_ok h.1 k fe e
      exact ⟨Ne.symm h1, fun z1 z2 => h2 (z2 ▸ z1) z2.symm⟩
    · cases e; exact dst1_ok h.1 k' fe' e'
    · exact absurd ((Nat.eq_of_beq_eq_true q).symm.trans (Nat.eq_of_beq_eq_true q')) hne
def chk (bytes : ByteArray) : Cd → Bool
  | [] => true
  | (pc, i, n) :: r => (match decode bytes pc with | .ok (i', n') => decide (i' = i ∧ n' = n) | .error _ => false) && (isSw i || Nat.beq n (ilen i)) && chk bytes r
theorem chk_ok {bytes : ByteArray} {cd : Cd} (h : chk bytes cd = true) : ∀ pc i n, fetch cd pc = some (i, n) → decode bytes pc = .ok (i, n) ∧ (isSw i = true ∨ n = ilen i) := by
  induction cd with
  | nil => intro pc i n e; cases e
  | cons x r ih =>
    intro pc i n e
    obtain ⟨a, i', n'⟩ := x
    simp only [chk, Bool.and_eq_true] at h
    obtain ⟨⟨h1, h2⟩, h3⟩ := h
    simp only [fetch] at e
    cases q : Nat.beq a pc
    · rw [q] at e; exact ih h3 pc i n e
    · rw [q] at e; cases e
      obtain rfl := Nat.eq_of_beq_eq_true q
      refine ⟨?_, ?_⟩
      · split at h1
        · rename_i i2 n2 hd
          obtain ⟨rfl, rfl⟩ := of_decide_eq_true h1
          exact hd
        · cases h1
      · simp only [Bool.or_eq_true] at h2
        exact h2.imp id Nat.eq_of_beq_eq_true
/-- the array that the law is handed -/
theorem script_of {s : State} {args : Array Value} {a : Addr} {cl : Cell} {t : Term} {k : Int32} (hf : Fit s) (A : Arr s s.heap a cl .int) (ev : t.eval args s none [] s = some (.ref a)) (hl : (Cond.le (Term.length t) (Term.int k)).value args s none s [] = some true) :
    (cl.slots.size < 2 ^ 31 ∧ (cl.slots.size : Int) ≤ k.toInt) ∧ SRep s s.heap a s.heap.size (some (cl.slots.size, fun i => match cl.slots[i]? with | some (.int x) => x | _ => 0)) := by
  obtain ⟨x, y, h1, h2, -⟩ := cmp_v (Or.inr (Or.inr hl))
  have hz : cl.slots.size < 2 ^ 31 := by
    have q : (Term.length t).eval args s none [] s = if cl.slots.size < 2 ^ 31 then some (.int cl.slots.size.toInt32) else none := by simp [Term.eval, ev, A.fin (Vm.Alike.refl _)]
    rw [h1] at q
    split at q
    · assumption
    · cases q
  have h1' := len_f ev (A.fin (Vm.Alike.refl _)) hz (args := args) (first := s) (o := none) (idx := [])
  have hle := gotT (Cond.le_ints h1' (Term.int_eval k)) hl
  rw [Int32.le_iff_toInt_le, len_toInt hz] at hle
  refine ⟨⟨hz, hle⟩, A.lt, cl, A, rfl, fun i hi => ?_⟩
  have e1 : cl.slots[i]? = some cl.slots[i] := Array.getElem?_eq_getElem hi
  have q := elem_fit hf A (j := i.toInt32) (idx_in hi hz)
  have e2 : i.toInt32.toNatClampNeg = i := by
    have := len_toInt (n := i) (by omega)
    simp only [Int32.toNatClampNeg, this]; rfl
  rw [e2] at q
  obtain ⟨v, hv, hfv⟩ := q
  obtain ⟨x, rfl⟩ := fit_I hfv (Or.inl rfl)
  rw [hv]
  dsimp only
  rw [hv]
end Jvm.LM
namespace Jvm.LM
theorem law_run {P : Cl} {Q : Lw} {sc : Sc} {as : List Value} (h : lalI P Q sc 0 as W0 fun v _ => v = 1) {me : Me} (hme : asc Q.ms 0 = some me) : ∃ f w', lexec P Q sc f 0 me 0 (lay as me.ml) [] W0 = some (some (.int 1), w') := by
  obtain ⟨f, v, w', h1, v', rfl, rfl⟩ := h
  refine ⟨f, w', ?_⟩
  simp only [lcall, hme] at h1
  split at h1
  · exact h1
  · cases h1
end Jvm.LM

namespace Jvm.LM
open Jvm.RoadKit
/-! numbers -/
theorem i32_add {x y : Int32} (h1 : -2147483648 ≤ x.toInt + y.toInt) (h2 : x.toInt + y.toInt < 2147483648) : (x + y).toInt = x.toInt + y.toInt := by
  have := c_iadd x y; have := rng32 (x + y); omega
theorem i32_sub {x y : Int32} (h1 : -2147483648 ≤ x.toInt - y.toInt) (h2 : x.toInt - y.toInt < 2147483648) : (x - y).toInt = x.toInt - y.toInt := by
  have := c_isub x y; have := rng32 (x - y); omega
theorem i32_mul {x y : Int32} (h1 : -2147483648 ≤ x.toInt * y.toInt) (h2 : x.toInt * y.toInt < 2147483648) : (x * y).toInt = x.toInt * y.toInt := by
  have := c_imul x y; have := rng32 (x * y); omega
theorem ix_int {i : Int32} (h : 0 ≤ i.toInt) : (ix i : Int) = i.toInt := by simp only [ix, Int32.toNatClampNeg]; omega
theorem ix_inj {i j : Int32} (hi : 0 ≤ i.toInt) (hj : 0 ≤ j.toInt) : ix i = ix j ↔ i = j := by
  have a := ix_int hi; have b := ix_int hj
  rw [← Int32.toInt_inj]; omega
theorem i32_lt {x y : Int32} : x < y ↔ x.toInt < y.toInt := Int32.lt_iff_toInt_lt
theorem i32_eq {x y : Int32} : x = y ↔ x.toInt = y.toInt := Int32.toInt_inj.symm
/-- a loop that counts up to N: from the next turn to this one -/
theorem loop_up {F : Int32 → Prop} (N : Int) (hN : N < 2147483647) (step : ∀ i, 0 ≤ i.toInt → i.toInt < N → (i + 1).toInt = i.toInt + 1 → F (i + 1) → F i) (last : ∀ i, i.toInt = N → F i) : ∀ i, 0 ≤ i.toInt → i.toInt ≤ N → F i := by
  have key : ∀ n : Nat, ∀ i : Int32, 0 ≤ i.toInt → i.toInt + n = N → F i := by
    intro n
    induction n with
    | zero => intro i h0 h1; exact last i (by omega)
    | succ n ih =>
      intro i h0 h1
      have e : (i + 1).toInt = i.toInt + 1 := i32_add (by simp; omega) (by simp; omega)
      exact step i h0 (by omega) e (ih (i + 1) (by omega) (by omega))
  intro i h0 h1
  exact key (N - i.toInt).toNat i h0 (by omega)
theorem cmpL_lt {x y : Int64} : Jvm.Free.XT.cmpL x y < 0 ↔ x < y := by
  unfold Jvm.Free.XT.cmpL; split
  · rename_i h; exact ⟨fun q => absurd q (by decide), fun q => by rw [Int64.lt_iff_toInt_lt] at h q; omega⟩
  · split
    · rename_i h; subst h; exact ⟨fun q => absurd q (by decide), fun q => by rw [Int64.lt_iff_toInt_lt] at q; omega⟩
    · rename_i h1 h2
      refine ⟨fun _ => ?_, fun _ => by decide⟩
      rw [Int64.lt_iff_toInt_lt] at h1 ⊢; rw [← Int64.toInt_inj] at h2; omega
theorem cmpL_gt {x y : Int64} : 0 < Jvm.Free.XT.cmpL x y ↔ y < x := by
  unfold Jvm.Free.XT.cmpL; split
  · rename_i h; exact ⟨fun _ => h, fun _ => by decide⟩
  · rename_i h; split
    · exact ⟨fun q => absurd q (by decide), fun q => absurd q h⟩
    · exact ⟨fun q => absurd q (by decide), fun q => absurd q h⟩
theorem cmpL_eq {x y : Int64} : Jvm.Free.XT.cmpL x y = 0 ↔ x = y := by
  unfold Jvm.Free.XT.cmpL; split
  · rename_i h; exact ⟨fun q => absurd q (by decide), fun q => by subst q; rw [Int64.lt_iff_toInt_lt] at h; omega⟩
  · split
    · rename_i h; exact ⟨fun _ => h, fun _ => rfl⟩
    · rename_i h1 h2; exact ⟨fun q => absurd q (by decide), fun q => absurd q h2⟩
end Jvm.LM

namespace Jvm.Pilot.@@N@@
open Jvm Jvm.ClassFile Sem Op Lib Jvm.Free Jvm.Stand Jvm.LawKit Jvm.RoadKit Jvm.LM Bundle Jvm.Pilot.@@N@@.Jvm.D
def cm0 : Me := ("<init>", "(III)V", 3, 0, [(0, .aload_n 0, 1), (1, .invokespecial 1, 3), (4, .aload_n 0, 1), (5, .bipush 8, 2), (7, .newarray .boolean, 2), (9, .putfield 7, 3), (12, .aload_n 0, 1), (13, .bipush 8, 2), (15, .newarray .boolean, 2), (17, .putfield 13, 3), (20, .aload_n 0, 1), (21, .sipush 128, 3), (24, .newarray .int, 2), (26, .putfield 16, 3), (29, .aload_n 0, 1), (30, .bipush 8, 2), (32, .newarray .int, 2), (34, .putfield 20, 3), (37, .aload_n 0, 1), (38, .bipush 8, 2), (40, .newarray .int, 2), (42, .putfield 23, 3), (45, .aload_n 0, 1), (46, .bipush 64, 2), (48, .newarray .boolean, 2), (50, .putfield 26, 3), (53, .aload_n 0, 1), (54, .bipush 64, 2), (56, .newarray .int, 2), (58, .putfield 29, 3), (61, .aload_n 0, 1), (62, .bipush 64, 2), (64, .newarray .boolean, 2), (66, .putfield 32, 3), (69, .aload_n 0, 1), (70, .bipush 64, 2), (72, .newarray .int, 2), (74, .putfield 35, 3), (77, .aload_n 0, 1), (78, .bipush 16, 2), (80, .newarray .int, 2), (82, .putfield 38, 3), (85, .aload_n 0, 1), (86, .bipush 16, 2), (88, .newarray .int, 2), (90, .putfield 41, 3), (93, .aload_n 0, 1), (94, .aload_n 0, 1), (95, .iload_n 1, 1), (96, .iconst 1, 1), (97, .bipush 8, 2), (99, .invokevirtual 44, 3), (102, .putfield 48, 3), (105, .aload_n 0, 1), (106, .aload_n 0, 1), (107, .iload_n 2, 1), (108, .iconst 1, 1), (109, .bipush 16, 2), (111, .invokevirtual 44, 3), (114, .putfield 52, 3), (117, .aload_n 0, 1), (118, .aload_n 0, 1), (119, .iload_n 3, 1), (120, .iconst 1, 1), (121, .iconst 4, 1), (122, .invokevirtual 44, 3), (125, .putfield 55, 3), (128, .aload_n 0, 1), (129, .iconst 0, 1), (130, .putfield 58, 3), (133, .return_, 1)], 4, 1, 16)
def cm2 : Me := ("clamp", "(III)I", 3, 1, [(0, .iload_n 1, 1), (1, .iload_n 2, 1), (2, .if_icmp .ge 5, 3), (5, .iload_n 2, 1), (6, .ireturn, 1), (7, .iload_n 1, 1), (8, .iload_n 3, 1), (9, .if_icmp .le 5, 3), (12, .iload_n 3, 1), (13, .ireturn, 1), (14, .iload_n 1, 1), (15, .ireturn, 1)], 4, 0, 0)
def cm3 : Me := ("isOpen", "(I)Z", 1, 2, [(0, .iload_n 1, 1), (1, .ifCond .lt 13, 3), (4, .iload_n 1, 1), (5, .iconst 2, 1), (6, .aload_n 0, 1), (7, .getfield 48, 3), (10, .imul, 1), (11, .if_icmp .lt 5, 3), (14, .iconst 0, 1), (15, .ireturn, 1), (16, .iload_n 1, 1), (17, .iconst 1, 1), (18, .ishr, 1), (19, .istore_n 2, 1), (20, .iload_n 1, 1), (21, .iconst 1, 1), (22, .iand, 1), (23, .ifCond .ne 10, 3), (26, .aload_n 0, 1), (27, .getfield 7, 3), (30, .iload_n 2, 1), (31, .baload, 1), (32, .ireturn, 1), (33, .aload_n 0, 1), (34, .getfield 13, 3), (37, .iload_n 2, 1), (38, .baload, 1), (39, .ireturn, 1)], 3, 0, 0)
def cm4 : Me := ("rawReady", "(I)I", 1, 1, [(0, .iload_n 1, 1), (1, .iconst 1, 1), (2, .ishr, 1), (3, .istore_n 2, 1), (4, .iconst 0, 1), (5, .istore_n 3, 1), (6, .iload_n 1, 1), (7, .iconst 1, 1), (8, .iand, 1), (9, .ifCond .ne 41, 3), (12, .aload_n 0, 1), (13, .getfield 23, 3), (16, .iload_n 2, 1), (17, .iaload, 1), (18, .ifCond .gt 12, 3), (21, .aload_n 0, 1), (22, .getfield 13, 3), (25, .iload_n 2, 1), (26, .baload, 1), (27, .ifCond .ne 7, 3), (30, .iload_n 3, 1), (31, .iconst 1, 1), (32, .ior, 1), (33, .istore_n 3, 1), (34, .aload_n 0, 1), (35, .getfield 13, 3), (38, .iload_n 2, 1), (39, .baload, 1), (40, .ifCond .ne 50, 3), (43, .iload_n 3, 1), (44, .iconst 4, 1), (45, .ior, 1), (46, .istore_n 3, 1), (47, .goto 43, 3), (50, .aload_n 0, 1), (51, .getfield 23, 3), (54, .iload_n 2, 1), (55, .iaload, 1), (56, .aload_n 0, 1), (57, .getfield 52, 3), (60, .if_icmp .lt 12, 3), (63, .aload_n 0, 1), (64, .getfield 7, 3), (67, .iload_n 2, 1), (68, .baload, 1), (69, .ifCond .ne 7, 3), (72, .iload_n 3, 1), (73, .iconst 2, 1), (74, .ior, 1), (75, .istore_n 3, 1), (76, .aload_n 0, 1), (77, .getfield 7, 3), (80, .iload_n 2, 1), (81, .baload, 1), (82, .ifCond .ne 8, 3), (85, .iload_n 3, 1), (86, .bipush 8, 2), (88, .ior, 1), (89, .istore_n 3, 1), (90, .iload_n 3, 1), (91, .ireturn, 1)], 4, 0, 0)
def cm5 : Me := ("watched", "(I)I", 1, 1, [(0, .iload_n 1, 1), (1, .iconst 3, 1), (2, .iand, 1), (3, .iconst 4, 1), (4, .ior, 1), (5, .bipush 8, 2), (7, .ior, 1), (8, .ireturn, 1)], 2, 0, 0)
def cm6 : Me := ("validQ", "(I)Z", 1, 2, [(0, .iload_n 1, 1), (1, .ifCond .lt 15, 3), (4, .iload_n 1, 1), (5, .aload_n 0, 1), (6, .getfield 55, 3), (9, .if_icmp .ge 7, 3), (12, .iconst 1, 1), (13, .goto 4, 3), (16, .iconst 0, 1), (17, .ireturn, 1)], 2, 0, 0)
def cm7 : Me := ("validWord", "(I)Z", 1, 2, [(0, .iload_n 1, 1), (1, .bipush (-52), 2), (3, .iand, 1), (4, .ifCond .ne 7, 3), (7, .iconst 1, 1), (8, .goto 4, 3), (11, .iconst 0, 1), (12, .ireturn, 1)], 2, 0, 0)
def cm8 : Me := ("slot", "(II)I", 2, 1, [(0, .iload_n 1, 1), (1, .bipush 16, 2), (3, .imul, 1), (4, .iload_n 2, 1), (5, .iadd, 1), (6, .ireturn, 1)], 3, 0, 0)
def cm9 : Me := ("peek", "(II)I", 2, 1, [(0, .aload_n 0, 1), (1, .getfield 32, 3), (4, .iload_n 1, 1), (5, .baload, 1), (6, .ifCond .ne 5, 3), (9, .iconst 0, 1), (10, .ireturn, 1), (11, .aload_n 0, 1), (12, .getfield 29, 3), (15, .iload_n 1, 1), (16, .iaload, 1), (17, .bipush 16, 2), (19, .iand, 1), (20, .ifCond .eq 10, 3), (23, .aload_n 0, 1), (24, .getfield 35, 3), (27, .iload_n 1, 1), (28, .iaload, 1), (29, .ireturn, 1), (30, .aload_n 0, 1), (31, .iload_n 2, 1), (32, .invokevirtual 61, 3), (35, .aload_n 0, 1), (36, .aload_n 0, 1), (37, .getfield 29, 3), (40, .iload_n 1, 1), (41, .iaload, 1), (42, .invokevirtual 65, 3), (45, .iand, 1), (46, .ireturn, 1)], 3, 1, 15)
def cm10 : Me := ("arm", "(III)V", 3, 0, [(0, .aload_n 0, 1), (1, .getfield 29, 3), (4, .iload_n 1, 1), (5, .iload_n 3, 1), (6, .iastore, 1), (7, .aload_n 0, 1), (8, .getfield 32, 3), (11, .iload_n 1, 1), (12, .iconst 1, 1), (13, .bastore, 1), (14, .iload_n 3, 1), (15, .bipush 16, 2), (17, .iand, 1), (18, .ifCond .eq 23, 3), (21, .aload_n 0, 1), (22, .getfield 35, 3), (25, .iload_n 1, 1), (26, .aload_n 0, 1), (27, .iload_n 2, 1), (28, .invokevirtual 61, 3), (31, .aload_n 0, 1), (32, .iload_n 3, 1), (33, .invokevirtual 65, 3), (36, .iand, 1), (37, .iastore, 1), (38, .goto 10, 3), (41, .aload_n 0, 1), (42, .getfield 35, 3), (45, .iload_n 1, 1), (46, .iconst 0, 1), (47, .iastore, 1), (48, .return_, 1)], 4, 1, 17)
def cm13 : Me := ("edgeUpdate", "(II)V", 2, 0, [(0, .aload_n 0, 1), (1, .iload_n 1, 1), (2, .invokevirtual 76, 3), (5, .ifCond .ne 4, 3), (8, .return_, 1), (9, .aload_n 0, 1), (10, .iload_n 1, 1), (11, .invokevirtual 61, 3), (14, .istore_n 3, 1), (15, .iconst 0, 1), (16, .istore 4, 2), (18, .iload 4, 2), (20, .aload_n 0, 1), (21, .getfield 55, 3), (24, .if_icmp .ge 89, 3), (27, .aload_n 0, 1), (28, .iload 4, 2), (30, .iload_n 1, 1), (31, .invokevirtual 68, 3), (34, .istore 5, 2), (36, .aload_n 0, 1), (37, .getfield 26, 3), (40, .iload 5, 2), (42, .baload, 1), (43, .ifCond .eq 64, 3), (46, .aload_n 0, 1), (47, .getfield 32, 3), (50, .iload 5, 2), (52, .baload, 1), (53, .ifCond .eq 54, 3), (56, .aload_n 0, 1), (57, .getfield 29, 3), (60, .iload 5, 2), (62, .iaload, 1), (63, .bipush 16, 2), (65, .iand, 1), (66, .ifCond .eq 41, 3), (69, .aload_n 0, 1), (70, .aload_n 0, 1), (71, .getfield 29, 3), (74, .iload 5, 2), (76, .iaload, 1), (77, .invokevirtual 65, 3), (80, .istore 6, 2), (82, .aload_n 0, 1), (83, .getfield 35, 3), (86, .iload 5, 2), (88, .aload_n 0, 1), (89, .getfield 35, 3), (92, .iload 5, 2), (94, .iaload, 1), (95, .iload_n 3, 1), (96, .iand, 1), (97, .iload_n 3, 1), (98, .iload_n 2, 1), (99, .iconst (-1), 1), (100, .ixor, 1), (101, .iand, 1), (102, .iload 6, 2), (104, .iand, 1), (105, .ior, 1), (106, .iastore, 1), (107, .iinc 4 1, 3), (110, .goto (-92), 3), (113, .return_, 1)], 7, 1, 15)
def cm15 : Me := ("createPipe", "()I", 0, 1, [(0, .iconst 0, 1), (1, .istore_n 1, 1), (2, .iload_n 1, 1), (3, .aload_n 0, 1), (4, .getfield 48, 3), (7, .if_icmp .ge 57, 3), (10, .aload_n 0, 1), (11, .getfield 7, 3), (14, .iload_n 1, 1), (15, .baload, 1), (16, .ifCond .ne 42, 3), (19, .aload_n 0, 1), (20, .getfield 13, 3), (23, .iload_n 1, 1), (24, .baload, 1), (25, .ifCond .ne 33, 3), (28, .aload_n 0, 1), (29, .getfield 7, 3), (32, .iload_n 1, 1), (33, .iconst 1, 1), (34, .bastore, 1), (35, .aload_n 0, 1), (36, .getfield 13, 3), (39, .iload_n 1, 1), (40, .iconst 1, 1), (41, .bastore, 1), (42, .aload_n 0, 1), (43, .getfield 20, 3), (46, .iload_n 1, 1), (47, .iconst 0, 1), (48, .iastore, 1), (49, .aload_n 0, 1), (50, .getfield 23, 3), (53, .iload_n 1, 1), (54, .iconst 0, 1), (55, .iastore, 1), (56, .iload_n 1, 1), (57, .ireturn, 1), (58, .iinc 1 1, 3), (61, .goto (-59), 3), (64, .bipush (-8), 2), (66, .ireturn, 1)], 2, 0, 0)
def cm16 : Me := ("write", "(II)I", 2, 1, [(0, .aload_n 0, 1), (1, .iload_n 1, 1), (2, .invokevirtual 76, 3), (5, .ifCond .eq 9, 3), (8, .iload_n 1, 1), (9, .iconst 1, 1), (10, .iand, 1), (11, .ifCond .ne 5, 3), (14, .iconst (-1), 1), (15, .ireturn, 1), (16, .iload_n 1, 1), (17, .iconst 1, 1), (18, .ishr, 1), (19, .istore_n 3, 1), (20, .aload_n 0, 1), (21, .getfield 7, 3), (24, .iload_n 3, 1), (25, .baload, 1), (26, .ifCond .ne 6, 3), (29, .bipush (-4), 2), (31, .ireturn, 1), (32, .aload_n 0, 1), (33, .getfield 23, 3), (36, .iload_n 3, 1), (37, .iaload, 1), (38, .aload_n 0, 1), (39, .getfield 52, 3), (42, .if_icmp .lt 6, 3), (45, .bipush (-2), 2), (47, .ireturn, 1), (48, .aload_n 0, 1), (49, .iconst 2, 1), (50, .iload_n 3, 1), (51, .imul, 1), (52, .invokevirtual 61, 3), (55, .istore 4, 2), (57, .aload_n 0, 1), (58, .iconst 2, 1), (59, .iload_n 3, 1), (60, .imul, 1), (61, .iconst 1, 1), (62, .iadd, 1), (63, .invokevirtual 61, 3), (66, .istore 5, 2), (68, .aload_n 0, 1), (69, .getfield 20, 3), (72, .iload_n 3, 1), (73, .iaload, 1), (74, .aload_n 0, 1), (75, .getfield 23, 3), (78, .iload_n 3, 1), (79, .iaload, 1), (80, .iadd, 1), (81, .bipush 15, 2), (83, .iand, 1), (84, .istore 6, 2), (86, .aload_n 0, 1), (87, .getfield 16, 3), (90, .iload_n 3, 1), (91, .bipush 16, 2), (93, .imul, 1), (94, .iload 6, 2), (96, .iadd, 1), (97, .iload_n 2, 1), (98, .sipush 255, 3), (101, .iand, 1), (102, .iastore, 1), (103, .aload_n 0, 1), (104, .getfield 23, 3), (107, .iload_n 3, 1), (108, .aload_n 0, 1), (109, .getfield 23, 3), (112, .iload_n 3, 1), (113, .iaload, 1), (114, .iconst 1, 1), (115, .iadd, 1), (116, .iastore, 1), (117, .aload_n 0, 1), (118, .iconst 2, 1), (119, .iload_n 3, 1), (120, .imul, 1), (121, .iload 4, 2), (123, .invokevirtual 83, 3), (126, .aload_n 0, 1), (127, .iconst 2, 1), (128, .iload_n 3, 1), (129, .imul, 1), (130, .iconst 1, 1), (131, .iadd, 1), (132, .iload 5, 2), (134, .invokevirtual 83, 3), (137, .iconst 0, 1), (138, .ireturn, 1)], 7, 2, 33)
def cm17 : Me := ("read", "(I)I", 1, 1, [(0, .aload_n 0, 1), (1, .iload_n 1, 1), (2, .invokevirtual 76, 3), (5, .ifCond .eq 9, 3), (8, .iload_n 1, 1), (9, .iconst 1, 1), (10, .iand, 1), (11, .ifCond .eq 5, 3), (14, .iconst (-1), 1), (15, .ireturn, 1), (16, .iload_n 1, 1), (17, .iconst 1, 1), (18, .ishr, 1), (19, .istore_n 2, 1), (20, .aload_n 0, 1), (21, .getfield 23, 3), (24, .iload_n 2, 1), (25, .iaload, 1), (26, .ifCond .ne 18, 3), (29, .aload_n 0, 1), (30, .getfield 13, 3), (33, .iload_n 2, 1), (34, .baload, 1), (35, .ifCond .eq 6, 3), (38, .bipush (-2), 2), (40, .ireturn, 1), (41, .bipush (-3), 2), (43, .ireturn, 1), (44, .aload_n 0, 1), (45, .iconst 2, 1), (46, .iload_n 2, 1), (47, .imul, 1), (48, .invokevirtual 61, 3), (51, .istore_n 3, 1), (52, .aload_n 0, 1), (53, .iconst 2, 1), (54, .iload_n 2, 1), (55, .imul, 1), (56, .iconst 1, 1), (57, .iadd, 1), (58, .invokevirtual 61, 3), (61, .istore 4, 2), (63, .aload_n 0, 1), (64, .getfield 16, 3), (67, .iload_n 2, 1), (68, .bipush 16, 2), (70, .imul, 1), (71, .aload_n 0, 1), (72, .getfield 20, 3), (75, .iload_n 2, 1), (76, .iaload, 1), (77, .bipush 15, 2), (79, .iand, 1), (80, .iadd, 1), (81, .iaload, 1), (82, .istore 5, 2), (84, .aload_n 0, 1), (85, .getfield 20, 3), (88, .iload_n 2, 1), (89, .aload_n 0, 1), (90, .getfield 20, 3), (93, .iload_n 2, 1), (94, .iaload, 1), (95, .iconst 1, 1), (96, .iadd, 1), (97, .bipush 15, 2), (99, .iand, 1), (100, .iastore, 1), (101, .aload_n 0, 1), (102, .getfield 23, 3), (105, .iload_n 2, 1), (106, .aload_n 0, 1), (107, .getfield 23, 3), (110, .iload_n 2, 1), (111, .iaload, 1), (112, .iconst 1, 1), (113, .isub, 1), (114, .iastore, 1), (115, .aload_n 0, 1), (116, .iconst 2, 1), (117, .iload_n 2, 1), (118, .imul, 1), (119, .iload_n 3, 1), (120, .invokevirtual 83, 3), (123, .aload_n 0, 1), (124, .iconst 2, 1), (125, .iload_n 2, 1), (126, .imul, 1), (127, .iconst 1, 1), (128, .iadd, 1), (129, .iload 4, 2), (131, .invokevirtual 83, 3), (134, .iload 5, 2), (136, .ireturn, 1)], 6, 2, 33)
def cm19 : Me := ("ctlAdd", "(III)I", 3, 1, [(0, .aload_n 0, 1), (1, .iload_n 1, 1), (2, .invokevirtual 80, 3), (5, .ifCond .eq 11, 3), (8, .aload_n 0, 1), (9, .iload_n 3, 1), (10, .invokevirtual 90, 3), (13, .ifCond .ne 6, 3), (16, .bipush (-6), 2), (18, .ireturn, 1), (19, .aload_n 0, 1), (20, .iload_n 2, 1), (21, .invokevirtual 76, 3), (24, .ifCond .ne 5, 3), (27, .iconst (-1), 1), (28, .ireturn, 1), (29, .aload_n 0, 1), (30, .iload_n 1, 1), (31, .iload_n 2, 1), (32, .invokevirtual 68, 3), (35, .istore 4, 2), (37, .aload_n 0, 1), (38, .getfield 26, 3), (41, .iload 4, 2), (43, .baload, 1), (44, .ifCond .eq 6, 3), (47, .bipush (-5), 2), (49, .ireturn, 1), (50, .aload_n 0, 1), (51, .getfield 26, 3), (54, .iload 4, 2), (56, .iconst 1, 1), (57, .bastore, 1), (58, .aload_n 0, 1), (59, .iload 4, 2), (61, .iload_n 2, 1), (62, .iload_n 3, 1), (63, .invokevirtual 93, 3), (66, .iconst 0, 1), (67, .ireturn, 1)], 5, 2, 32)
def cm22 : Me := ("wait", "(II)I", 2, 1, [(0, .aload_n 0, 1), (1, .iload_n 1, 1), (2, .invokevirtual 80, 3), (5, .ifCond .eq 8, 3), (8, .iload_n 2, 1), (9, .iconst 1, 1), (10, .if_icmp .ge 6, 3), (13, .bipush (-6), 2), (15, .ireturn, 1), (16, .iload_n 2, 1), (17, .bipush 16, 2), (19, .if_icmp .le 8, 3), (22, .bipush 16, 2), (24, .goto 4, 3), (27, .iload_n 2, 1), (28, .istore_n 3, 1), (29, .iconst 0, 1), (30, .istore 4, 2), (32, .iconst 2, 1), (33, .aload_n 0, 1), (34, .getfield 48, 3), (37, .imul, 1), (38, .istore 5, 2), (40, .iconst 0, 1), (41, .istore 6, 2), (43, .iload 6, 2), (45, .iload 5, 2), (47, .if_icmp .ge 82, 3), (50, .iload 4, 2), (52, .iload_n 3, 1), (53, .if_icmp .ge 76, 3), (56, .aload_n 0, 1), (57, .iload_n 1, 1), (58, .iload 6, 2), (60, .invokevirtual 68, 3), (63, .istore 7, 2), (65, .aload_n 0, 1), (66, .getfield 26, 3), (69, .iload 7, 2), (71, .baload, 1), (72, .ifCond .ne 6, 3), (75, .goto 48, 3), (78, .aload_n 0, 1), (79, .iload 7, 2), (81, .iload 6, 2), (83, .invokevirtual 97, 3), (86, .istore 8, 2), (88, .iload 8, 2), (90, .ifCond .ne 6, 3), (93, .goto 30, 3), (96, .aload_n 0, 1), (97, .getfield 38, 3), (100, .iload 4, 2), (102, .iload 6, 2), (104, .iastore, 1), (105, .aload_n 0, 1), (106, .getfield 41, 3), (109, .iload 4, 2), (111, .iload 8, 2), (113, .iastore, 1), (114, .iinc 4 1, 3), (117, .aload_n 0, 1), (118, .iload 7, 2), (120, .invokevirtual 100, 3), (123, .iinc 6 1, 3), (126, .goto (-83), 3), (129, .aload_n 0, 1), (130, .iload 4, 2), (132, .putfield 58, 3), (135, .iload 4, 2), (137, .ireturn, 1)], 9, 2, 29)
def cm23 : Me := ("consume", "(I)V", 1, 0, [(0, .aload_n 0, 1), (1, .getfield 29, 3), (4, .iload_n 1, 1), (5, .iaload, 1), (6, .bipush 32, 2), (8, .iand, 1), (9, .ifCond .eq 20, 3), (12, .aload_n 0, 1), (13, .getfield 32, 3), (16, .iload_n 1, 1), (17, .iconst 0, 1), (18, .bastore, 1), (19, .aload_n 0, 1), (20, .getfield 35, 3), (23, .iload_n 1, 1), (24, .iconst 0, 1), (25, .iastore, 1), (26, .goto 22, 3), (29, .aload_n 0, 1), (30, .getfield 29, 3), (33, .iload_n 1, 1), (34, .iaload, 1), (35, .bipush 16, 2), (37, .iand, 1), (38, .ifCond .eq 10, 3), (41, .aload_n 0, 1), (42, .getfield 35, 3), (45, .iload_n 1, 1), (46, .iconst 0, 1), (47, .iastore, 1), (48, .return_, 1)], 2, 0, 0)
def cm24 : Me := ("eventFd", "(I)I", 1, 1, [(0, .iload_n 1, 1), (1, .ifCond .lt 11, 3), (4, .iload_n 1, 1), (5, .aload_n 0, 1), (6, .getfield 58, 3), (9, .if_icmp .lt 5, 3), (12, .iconst (-1), 1), (13, .ireturn, 1), (14, .aload_n 0, 1), (15, .getfield 38, 3), (18, .iload_n 1, 1), (19, .iaload, 1), (20, .ireturn, 1)], 2, 0, 0)
def cm25 : Me := ("eventMask", "(I)I", 1, 1, [(0, .iload_n 1, 1), (1, .ifCond .lt 11, 3), (4, .iload_n 1, 1), (5, .aload_n 0, 1), (6, .getfield 58, 3), (9, .if_icmp .lt 5, 3), (12, .iconst 0, 1), (13, .ireturn, 1), (14, .aload_n 0, 1), (15, .getfield 41, 3), (18, .iload_n 1, 1), (19, .iaload, 1), (20, .ireturn, 1)], 2, 0, 0)
def PP : Cl := ("ReadinessPoller", [(17, ("nPipes", "I", 0, false)), (18, ("cap", "I", 0, false)), (19, ("nPolls", "I", 0, false)), (20, ("readOpen", "[Z", 3, false)), (21, ("writeOpen", "[Z", 4, false)), (22, ("buf", "[I", 5, false)), (23, ("head", "[I", 6, false)), (24, ("count", "[I", 7, false)), (25, ("regged", "[Z", 8, false)), (26, ("word", "[I", 9, false)), (27, ("enabled", "[Z", 10, false)), (28, ("pend", "[I", 11, false)), (29, ("resFd", "[I", 12, false)), (30, ("resMask", "[I", 13, false)), (31, ("resN", "I", 0, false))], [(1, 8), (1, 8), (0, 128), (0, 8), (0, 8), (1, 64), (0, 64), (1, 64), (0, 64), (0, 16), (0, 16)], [(7, 20), (13, 21), (16, 22), (20, 23), (23, 24), (26, 25), (29, 26), (32, 27), (35, 28), (38, 29), (41, 30), (48, 17), (52, 18), (55, 19), (58, 31)], [(44, 2), (61, 4), (65, 5), (68, 8), (76, 3), (80, 6), (83, 13), (90, 7), (93, 10), (97, 9), (100, 23)], [], [(0, cm0), (2, cm2), (3, cm3), (4, cm4), (5, cm5), (6, cm6), (7, cm7), (8, cm8), (9, cm9), (10, cm10), (13, cm13), (15, cm15), (16, cm16), (17, cm17), (19, cm19), (22, cm22), (23, cm23), (24, cm24), (25, cm25)], 1)
def lm0 : Me := ("law", "(III)Z", 3, 2, [(0, .new 8, 3), (3, .dup, 1), (4, .iconst 1, 1), (5, .iconst 4, 1), (6, .iconst 1, 1), (7, .invokespecial 16, 3), (10, .astore_n 3, 1), (11, .iconst 1, 1), (12, .istore 4, 2), (14, .iconst 2, 1), (15, .istore 5, 2), (17, .aload_n 3, 1), (18, .invokevirtual 19, 3), (21, .ifCond .eq 5, 3), (24, .iconst 0, 1), (25, .ireturn, 1), (26, .aload_n 3, 1), (27, .iconst 0, 1), (28, .iconst 0, 1), (29, .iload 4, 2), (31, .bipush 16, 2), (33, .ior, 1), (34, .invokevirtual 23, 3), (37, .ifCond .eq 5, 3), (40, .iconst 0, 1), (41, .ireturn, 1), (42, .aload_n 3, 1), (43, .iconst 0, 1), (44, .iconst 1, 1), (45, .iload 5, 2), (47, .invokevirtual 23, 3), (50, .ifCond .eq 5, 3), (53, .iconst 0, 1), (54, .ireturn, 1), (55, .iconst 0, 1), (56, .istore 6, 2), (58, .iload 6, 2), (60, .bipush 8, 2), (62, .if_icmp .ge 45, 3), (65, .iload 6, 2), (67, .iload_n 0, 1), (68, .if_icmp .ge 33, 3), (71, .aload_n 3, 1), (72, .iconst 1, 1), (73, .iload_n 1, 1), (74, .iload 6, 2), (76, .iadd, 1), (77, .invokevirtual 27, 3), (80, .istore 7, 2), (82, .iload 7, 2), (84, .iload 6, 2), (86, .iconst 4, 1), (87, .if_icmp .ge 7, 3), (90, .iconst 0, 1), (91, .goto 5, 3), (94, .bipush (-2), 2), (96, .if_icmp .eq 5, 3), (99, .iconst 0, 1), (100, .ireturn, 1), (101, .iinc 6 1, 3), (104, .goto (-46), 3), (107, .iload_n 0, 1), (108, .ifCond .ge 7, 3), (111, .iconst 0, 1), (112, .goto 13, 3), (115, .iload_n 0, 1), (116, .iconst 4, 1), (117, .if_icmp .le 7, 3), (120, .iconst 4, 1), (121, .goto 4, 3), (124, .iload_n 0, 1), (125, .istore 6, 2), (127, .iload 6, 2), (129, .ifCond .le 7, 3), (132, .iconst 1, 1), (133, .goto 4, 3), (136, .iconst 0, 1), (137, .iload 6, 2), (139, .iconst 4, 1), (140, .if_icmp .ge 7, 3), (143, .iconst 1, 1), (144, .goto 4, 3), (147, .iconst 0, 1), (148, .iadd, 1), (149, .istore 7, 2), (151, .aload_n 3, 1), (152, .iconst 0, 1), (153, .bipush 16, 2), (155, .invokevirtual 31, 3), (158, .iload 7, 2), (160, .if_icmp .eq 5, 3), (163, .iconst 0, 1), (164, .ireturn, 1), (165, .aload_n 3, 1), (166, .iconst 0, 1), (167, .iload 6, 2), (169, .ifCond .le 7, 3), (172, .iconst 0, 1), (173, .goto 4, 3), (176, .iconst 1, 1), (177, .iload 6, 2), (179, .ifCond .le 8, 3), (182, .iload 4, 2), (184, .goto 5, 3), (187, .iload 5, 2), (189, .invokestatic 34, 3), (192, .ifCond .ne 5, 3), (195, .iconst 0, 1), (196, .ireturn, 1), (197, .iload 6, 2), (199, .ifCond .le 13, 3), (202, .iload 6, 2), (204, .iconst 4, 1), (205, .if_icmp .ge 7, 3), (208, .iconst 1, 1), (209, .goto 4, 3), (212, .iconst 0, 1), (213, .istore 8, 2), (215, .aload_n 3, 1), (216, .iconst 1, 1), (217, .iload 8, 2), (219, .ifCond .eq 7, 3), (222, .iconst 1, 1), (223, .goto 4, 3), (226, .iconst (-1), 1), (227, .iload 8, 2), (229, .ifCond .eq 8, 3), (232, .iload 5, 2), (234, .goto 4, 3), (237, .iconst 0, 1), (238, .invokestatic 34, 3), (241, .ifCond .ne 5, 3), (244, .iconst 0, 1), (245, .ireturn, 1), (246, .iload 6, 2), (248, .iconst 4, 1), (249, .if_icmp .ge 7, 3), (252, .iconst 1, 1), (253, .goto 4, 3), (256, .iconst 0, 1), (257, .istore 9, 2), (259, .aload_n 3, 1), (260, .iconst 0, 1), (261, .bipush 16, 2), (263, .invokevirtual 31, 3), (266, .iload 9, 2), (268, .ifCond .eq 7, 3), (271, .iconst 1, 1), (272, .goto 4, 3), (275, .iconst 0, 1), (276, .if_icmp .eq 5, 3), (279, .iconst 0, 1), (280, .ireturn, 1), (281, .aload_n 3, 1), (282, .iconst 0, 1), (283, .iload 9, 2), (285, .ifCond .eq 7, 3), (288, .iconst 1, 1), (289, .goto 4, 3), (292, .iconst (-1), 1), (293, .iload 9, 2), (295, .ifCond .eq 8, 3), (298, .iload 5, 2), (300, .goto 4, 3), (303, .iconst 0, 1), (304, .invokestatic 34, 3), (307, .ifCond .ne 5, 3), (310, .iconst 0, 1), (311, .ireturn, 1), (312, .aload_n 3, 1), (313, .iconst 0, 1), (314, .invokevirtual 40, 3), (317, .istore 10, 2), (319, .iload 10, 2), (321, .iload 6, 2), (323, .ifCond .le 11, 3), (326, .iload_n 1, 1), (327, .sipush 255, 3), (330, .iand, 1), (331, .goto 5, 3), (334, .bipush (-2), 2), (336, .if_icmp .eq 5, 3), (339, .iconst 0, 1), (340, .ireturn, 1), (341, .iload 6, 2), (343, .ifCond .le 10, 3), (346, .iload 6, 2), (348, .iconst 1, 1), (349, .isub, 1), (350, .goto 4, 3), (353, .iconst 0, 1), (354, .istore 11, 2), (356, .aload_n 3, 1), (357, .iconst 0, 1), (358, .bipush 16, 2), (360, .invokevirtual 31, 3), (363, .iconst 1, 1), (364, .if_icmp .eq 5, 3), (367, .iconst 0, 1), (368, .ireturn, 1), (369, .aload_n 3, 1), (370, .iconst 0, 1), (371, .iconst 1, 1), (372, .iload 5, 2), (374, .invokestatic 34, 3), (377, .ifCond .ne 5, 3), (380, .iconst 0, 1), (381, .ireturn, 1), (382, .aload_n 3, 1), (383, .iconst 1, 1), (384, .iload_n 2, 1), (385, .invokevirtual 27, 3), (388, .ifCond .eq 5, 3), (391, .iconst 0, 1), (392, .ireturn, 1), (393, .iload 11, 2), (395, .iconst 1, 1), (396, .iadd, 1), (397, .istore 12, 2), (399, .iload 11, 2), (401, .ifCond .ne 7, 3), (404, .iconst 1, 1), (405, .goto 4, 3), (408, .iconst 0, 1), (409, .istore 13, 2), (411, .iload 12, 2), (413, .iconst 4, 1), (414, .if_icmp .ge 7, 3), (417, .iconst 1, 1), (418, .goto 4, 3), (421, .iconst 0, 1), (422, .istore 14, 2), (424, .iload 13, 2), (426, .ifCond .eq 7, 3), (429, .iconst 1, 1), (430, .goto 4, 3), (433, .iconst 0, 1), (434, .iload 14, 2), (436, .ifCond .eq 7, 3), (439, .iconst 1, 1), (440, .goto 4, 3), (443, .iconst 0, 1), (444, .iadd, 1), (445, .istore 15, 2), (447, .aload_n 3, 1), (448, .iconst 0, 1), (449, .bipush 16, 2), (451, .invokevirtual 31, 3), (454, .iload 15, 2), (456, .if_icmp .eq 5, 3), (459, .iconst 0, 1), (460, .ireturn, 1), (461, .aload_n 3, 1), (462, .iconst 0, 1), (463, .iload 13, 2), (465, .ifCond .eq 7, 3), (468, .iconst 0, 1), (469, .goto 13, 3), (472, .iload 14, 2), (474, .ifCond .eq 7, 3), (477, .iconst 1, 1), (478, .goto 4, 3), (481, .iconst (-1), 1), (482, .iload 13, 2), (484, .ifCond .eq 8, 3), (487, .iload 4, 2), (489, .goto 14, 3), (492, .iload 14, 2), (494, .ifCond .eq 8, 3), (497, .iload 5, 2), (499, .goto 4, 3), (502, .iconst 0, 1), (503, .invokestatic 34, 3), (506, .ifCond .ne 5, 3), (509, .iconst 0, 1), (510, .ireturn, 1), (511, .iload 13, 2), (513, .ifCond .eq 12, 3), (516, .iload 14, 2), (518, .ifCond .eq 7, 3), (521, .iconst 1, 1), (522, .goto 4, 3), (525, .iconst 0, 1), (526, .istore 16, 2), (528, .aload_n 3, 1), (529, .iconst 1, 1), (530, .iload 16, 2), (532, .ifCond .eq 7, 3), (535, .iconst 1, 1), (536, .goto 4, 3), (539, .iconst (-1), 1), (540, .iload 16, 2), (542, .ifCond .eq 8, 3), (545, .iload 5, 2), (547, .goto 4, 3), (550, .iconst 0, 1), (551, .invokestatic 34, 3), (554, .ireturn, 1)], 17, 6, 160)
def lm2 : Me := ("ev", "(LReadinessPoller;III)Z", 4, 2, [(0, .aload_n 0, 1), (1, .iload_n 1, 1), (2, .invokevirtual 7, 3), (5, .iload_n 2, 1), (6, .if_icmp .eq 5, 3), (9, .iconst 0, 1), (10, .ireturn, 1), (11, .aload_n 0, 1), (12, .iload_n 1, 1), (13, .invokevirtual 13, 3), (16, .iload_n 3, 1), (17, .if_icmp .ne 7, 3), (20, .iconst 1, 1), (21, .goto 4, 3), (24, .iconst 0, 1), (25, .ireturn, 1)], 4, 1, 13)
def QQ : Lw := ("ReadinessPollerL3", [(34, 2)], [(7, 24), (13, 25), (19, 15), (23, 19), (27, 16), (31, 22), (40, 17)], 16, 8, 15, [], [(0, lm0), (2, lm2)], 32, 1024)
set_option maxRecDepth 100000
theorem dk_c0 : chk prog_1_method_1_code cm0.cd = true := by decide +kernel
theorem dk_c2 : chk prog_1_method_2_code cm2.cd = true := by decide +kernel
theorem dk_c15 : chk prog_1_method_15_code cm15.cd = true := by decide +kernel
theorem dk_c19 : chk prog_1_method_19_code cm19.cd = true := by decide +kernel
theorem dk_c6 : chk prog_1_method_6_code cm6.cd = true := by decide +kernel
theorem dk_c7 : chk prog_1_method_7_code cm7.cd = true := by decide +kernel
theorem dk_c3 : chk prog_1_method_3_code cm3.cd = true := by decide +kernel
theorem dk_c8 : chk prog_1_method_8_code cm8.cd = true := by decide +kernel
theorem dk_c10 : chk prog_1_method_10_code cm10.cd = true := by decide +kernel
theorem dk_c4 : chk prog_1_method_4_code cm4.cd = true := by decide +kernel
theorem dk_c5 : chk prog_1_method_5_code cm5.cd = true := by decide +kernel
theorem dk_c22 : chk prog_1_method_22_code cm22.cd = true := by decide +kernel
theorem dk_c9 : chk prog_1_method_9_code cm9.cd = true := by decide +kernel
theorem dk_c23 : chk prog_1_method_23_code cm23.cd = true := by decide +kernel
theorem dk_l2 : chk method_2_code lm2.cd = true := by decide +kernel
theorem dk_c24 : chk prog_1_method_24_code cm24.cd = true := by decide +kernel
theorem dk_c25 : chk prog_1_method_25_code cm25.cd = true := by decide +kernel
theorem dk_c17 : chk prog_1_method_17_code cm17.cd = true := by decide +kernel
theorem dk_c16 : chk prog_1_method_16_code cm16.cd = true := by decide +kernel
theorem dk_c13 : chk prog_1_method_13_code cm13.cd = true := by decide +kernel
theorem dk_l0 : chk code lm0.cd = true := by decide +kernel
theorem pk_c0 : parseMethodDescriptor "(III)V" = some ⟨[.int, .int, .int], none⟩ := by decide +kernel
theorem pk_c2 : parseMethodDescriptor "(III)I" = some ⟨[.int, .int, .int], some .int⟩ := by decide +kernel
theorem pk_c15 : parseMethodDescriptor "()I" = some ⟨[], some .int⟩ := by decide +kernel
theorem pk_c19 : parseMethodDescriptor "(III)I" = some ⟨[.int, .int, .int], some .int⟩ := by decide +kernel
theorem pk_c6 : parseMethodDescriptor "(I)Z" = some ⟨[.int], some .boolean⟩ := by decide +kernel
theorem pk_c7 : parseMethodDescriptor "(I)Z" = some ⟨[.int], some .boolean⟩ := by decide +kernel
theorem pk_c3 : parseMethodDescriptor "(I)Z" = some ⟨[.int], some .boolean⟩ := by decide +kernel
theorem pk_c8 : parseMethodDescriptor "(II)I" = some ⟨[.int, .int], some .int⟩ := by decide +kernel
theorem pk_c10 : parseMethodDescriptor "(III)V" = some ⟨[.int, .int, .int], none⟩ := by decide +kernel
theorem pk_c4 : parseMethodDescriptor "(I)I" = some ⟨[.int], some .int⟩ := by decide +kernel
theorem pk_c5 : parseMethodDescriptor "(I)I" = some ⟨[.int], some .int⟩ := by decide +kernel
theorem pk_c22 : parseMethodDescriptor "(II)I" = some ⟨[.int, .int], some .int⟩ := by decide +kernel
theorem pk_c9 : parseMethodDescriptor "(II)I" = some ⟨[.int, .int], some .int⟩ := by decide +kernel
theorem pk_c23 : parseMethodDescriptor "(I)V" = some ⟨[.int], none⟩ := by decide +kernel
theorem pk_l2 : parseMethodDescriptor "(LReadinessPoller;III)Z" = some ⟨[.object "ReadinessPoller", .int, .int, .int], some .boolean⟩ := by decide +kernel
theorem pk_c24 : parseMethodDescriptor "(I)I" = some ⟨[.int], some .int⟩ := by decide +kernel
theorem pk_c25 : parseMethodDescriptor "(I)I" = some ⟨[.int], some .int⟩ := by decide +kernel
theorem pk_c17 : parseMethodDescriptor "(I)I" = some ⟨[.int], some .int⟩ := by decide +kernel
theorem pk_c16 : parseMethodDescriptor "(II)I" = some ⟨[.int, .int], some .int⟩ := by decide +kernel
theorem pk_c13 : parseMethodDescriptor "(II)V" = some ⟨[.int, .int], none⟩ := by decide +kernel
theorem lkC (Z : State) (a0 : Array Value) (hw : ∀ d ∈ tables_1, d.before a0 Z = true) : LinkC PP Z a0 :=
  ⟨⟨⟨15, (hw _ (List.mem_of_getElem? (i := 1) rfl))⟩, (hw _ (List.mem_of_getElem? (i := 2) rfl))⟩,
   asc_all (⟨by intro z h; obtain rfl : ("readOpen", "[Z", 3, false) = z := Option.some.inj h; exact (hw _ (List.mem_of_getElem? (i := 10) rfl)), by intro z h; obtain rfl : ("writeOpen", "[Z", 4, false) = z := Option.some.inj h; exact (hw _ (List.mem_of_getElem? (i := 12) rfl)), by intro z h; obtain rfl : ("buf", "[I", 5, false) = z := Option.some.inj h; exact (hw _ (List.mem_of_getElem? (i := 15) rfl)), by intro z h; obtain rfl : ("head", "[I", 6, false) = z := Option.some.inj h; exact (hw _ (List.mem_of_getElem? (i := 17) rfl)), by intro z h; obtain rfl : ("count", "[I", 7, false) = z := Option.some.inj h; exact (hw _ (List.mem_of_getElem? (i := 19) rfl)), by intro z h; obtain rfl : ("regged", "[Z", 8, false) = z := Option.some.inj h; exact (hw _ (List.mem_of_getElem? (i := 21) rfl)), by intro z h; obtain rfl : ("word", "[I", 9, false) = z := Option.some.inj h; exact (hw _ (List.mem_of_getElem? (i := 23) rfl)), by intro z h; obtain rfl : ("enabled", "[Z", 10, false) = z := Option.some.inj h; exact (hw _ (List.mem_of_getElem? (i := 25) rfl)), by intro z h; obtain rfl : ("pend", "[I", 11, false) = z := Option.some.inj h; exact (hw _ (List.mem_of_getElem? (i := 27) rfl)), by intro z h; obtain rfl : ("resFd", "[I", 12, false) = z := Option.some.inj h; exact (hw _ (List.mem_of_getElem? (i := 29) rfl)), by intro z h; obtain rfl : ("resMask", "[I", 13, false) = z := Option.some.inj h; exact (hw _ (List.mem_of_getElem? (i := 31) rfl)), by intro z h; obtain rfl : ("nPipes", "I", 0, false) = z := Option.some.inj h; exact (hw _ (List.mem_of_getElem? (i := 37) rfl)), by intro z h; obtain rfl : ("cap", "I", 0, false) = z := Option.some.inj h; exact (hw _ (List.mem_of_getElem? (i := 39) rfl)), by intro z h; obtain rfl : ("nPolls", "I", 0, false) = z := Option.some.inj h; exact (hw _ (List.mem_of_getElem? (i := 41) rfl)), by intro z h; obtain rfl : ("resN", "I", 0, false) = z := Option.some.inj h; exact (hw _ (List.mem_of_getElem? (i := 43) rfl)), trivial⟩),
   asc_all (⟨(hw _ (List.mem_of_getElem? (i := 38) rfl)), (hw _ (List.mem_of_getElem? (i := 40) rfl)), (hw _ (List.mem_of_getElem? (i := 42) rfl)), (hw _ (List.mem_of_getElem? (i := 11) rfl)), (hw _ (List.mem_of_getElem? (i := 13) rfl)), (hw _ (List.mem_of_getElem? (i := 16) rfl)), (hw _ (List.mem_of_getElem? (i := 18) rfl)), (hw _ (List.mem_of_getElem? (i := 20) rfl)), (hw _ (List.mem_of_getElem? (i := 22) rfl)), (hw _ (List.mem_of_getElem? (i := 24) rfl)), (hw _ (List.mem_of_getElem? (i := 26) rfl)), (hw _ (List.mem_of_getElem? (i := 28) rfl)), (hw _ (List.mem_of_getElem? (i := 30) rfl)), (hw _ (List.mem_of_getElem? (i := 32) rfl)), (hw _ (List.mem_of_getElem? (i := 44) rfl)), trivial⟩),
   asc_all (⟨(by decide +kernel), (by decide +kernel), (by decide +kernel), (by decide +kernel), (by decide +kernel), (by decide +kernel), (by decide +kernel), (by decide +kernel), (by decide +kernel), (by decide +kernel), (by decide +kernel), (by decide +kernel), (by decide +kernel), (by decide +kernel), (by decide +kernel), trivial⟩),
   dst_ok (by decide +kernel),
   lst_all (⟨⟨by decide, (hw _ (List.mem_of_getElem? (i := 9) rfl))⟩, ⟨by decide, (hw _ (List.mem_of_getElem? (i := 9) rfl))⟩, ⟨by decide, (hw _ (List.mem_of_getElem? (i := 14) rfl))⟩, ⟨by decide, (hw _ (List.mem_of_getElem? (i := 14) rfl))⟩, ⟨by decide, (hw _ (List.mem_of_getElem? (i := 14) rfl))⟩, ⟨by decide, (hw _ (List.mem_of_getElem? (i := 9) rfl))⟩, ⟨by decide, (hw _ (List.mem_of_getElem? (i := 14) rfl))⟩, ⟨by decide, (hw _ (List.mem_of_getElem? (i := 9) rfl))⟩, ⟨by decide, (hw _ (List.mem_of_getElem? (i := 14) rfl))⟩, ⟨by decide, (hw _ (List.mem_of_getElem? (i := 14) rfl))⟩, ⟨by decide, (hw _ (List.mem_of_getElem? (i := 14) rfl))⟩, trivial⟩),
   asc_all (trivial),
   ⟨(hw _ (List.mem_of_getElem? (i := 6) rfl)), (hw _ (List.mem_of_getElem? (i := 7) rfl)), (hw _ (List.mem_of_getElem? (i := 8) rfl))⟩,
   asc_all (⟨⟨prog_1_method_1_code, [.int, .int, .int], (hw _ (List.mem_of_getElem? (i := 5) rfl)), chk_ok dk_c0, pk_c0, rfl⟩, ⟨prog_1_method_2_code, [.int, .int, .int], (hw _ (List.mem_of_getElem? (i := 36) rfl)), chk_ok dk_c2, pk_c2, rfl⟩, ⟨prog_1_method_3_code, [.int], (hw _ (List.mem_of_getElem? (i := 66) rfl)), chk_ok dk_c3, pk_c3, rfl⟩, ⟨prog_1_method_4_code, [.int], (hw _ (List.mem_of_getElem? (i := 78) rfl)), chk_ok dk_c4, pk_c4, rfl⟩, ⟨prog_1_method_5_code, [.int], (hw _ (List.mem_of_getElem? (i := 82) rfl)), chk_ok dk_c5, pk_c5, rfl⟩, ⟨prog_1_method_6_code, [.int], (hw _ (List.mem_of_getElem? (i := 58) rfl)), chk_ok dk_c6, pk_c6, rfl⟩, ⟨prog_1_method_7_code, [.int], (hw _ (List.mem_of_getElem? (i := 62) rfl)), chk_ok dk_c7, pk_c7, rfl⟩, ⟨prog_1_method_8_code, [.int, .int], (hw _ (List.mem_of_getElem? (i := 70) rfl)), chk_ok dk_c8, pk_c8, rfl⟩, ⟨prog_1_method_9_code, [.int, .int], (hw _ (List.mem_of_getElem? (i := 91) rfl)), chk_ok dk_c9, pk_c9, rfl⟩, ⟨prog_1_method_10_code, [.int, .int, .int], (hw _ (List.mem_of_getElem? (i := 74) rfl)), chk_ok dk_c10, pk_c10, rfl⟩, ⟨prog_1_method_13_code, [.int, .int], (hw _ (List.mem_of_getElem? (i := 123) rfl)), chk_ok dk_c13, pk_c13, rfl⟩, ⟨prog_1_method_15_code, [], (hw _ (List.mem_of_getElem? (i := 49) rfl)), chk_ok dk_c15, pk_c15, rfl⟩, ⟨prog_1_method_16_code, [.int, .int], (hw _ (List.mem_of_getElem? (i := 119) rfl)), chk_ok dk_c16, pk_c16, rfl⟩, ⟨prog_1_method_17_code, [.int], (hw _ (List.mem_of_getElem? (i := 114) rfl)), chk_ok dk_c17, pk_c17, rfl⟩, ⟨prog_1_method_19_code, [.int, .int, .int], (hw _ (List.mem_of_getElem? (i := 54) rfl)), chk_ok dk_c19, pk_c19, rfl⟩, ⟨prog_1_method_22_code, [.int, .int], (hw _ (List.mem_of_getElem? (i := 87) rfl)), chk_ok dk_c22, pk_c22, rfl⟩, ⟨prog_1_method_23_code, [.int], (hw _ (List.mem_of_getElem? (i := 95) rfl)), chk_ok dk_c23, pk_c23, rfl⟩, ⟨prog_1_method_24_code, [.int], (hw _ (List.mem_of_getElem? (i := 104) rfl)), chk_ok dk_c24, pk_c24, rfl⟩, ⟨prog_1_method_25_code, [.int], (hw _ (List.mem_of_getElem? (i := 109) rfl)), chk_ok dk_c25, pk_c25, rfl⟩, trivial⟩),
   asc_all (⟨by intro z h; obtain rfl : cm2 = z := Option.some.inj h; exact ⟨(hw _ (List.mem_of_getElem? (i := 33) rfl)), (hw _ (List.mem_of_getElem? (i := 34) rfl)), Or.inl (hw _ (List.mem_of_getElem? (i := 35) rfl))⟩, by intro z h; obtain rfl : cm4 = z := Option.some.inj h; exact ⟨(hw _ (List.mem_of_getElem? (i := 75) rfl)), (hw _ (List.mem_of_getElem? (i := 76) rfl)), Or.inl (hw _ (List.mem_of_getElem? (i := 77) rfl))⟩, by intro z h; obtain rfl : cm5 = z := Option.some.inj h; exact ⟨(hw _ (List.mem_of_getElem? (i := 79) rfl)), (hw _ (List.mem_of_getElem? (i := 80) rfl)), Or.inl (hw _ (List.mem_of_getElem? (i := 81) rfl))⟩, by intro z h; obtain rfl : cm8 = z := Option.some.inj h; exact ⟨(hw _ (List.mem_of_getElem? (i := 67) rfl)), (hw _ (List.mem_of_getElem? (i := 68) rfl)), Or.inl (hw _ (List.mem_of_getElem? (i := 69) rfl))⟩, by intro z h; obtain rfl : cm3 = z := Option.some.inj h; exact ⟨(hw _ (List.mem_of_getElem? (i := 63) rfl)), (hw _ (List.mem_of_getElem? (i := 64) rfl)), Or.inl (hw _ (List.mem_of_getElem? (i := 65) rfl))⟩, by intro z h; obtain rfl : cm6 = z := Option.some.inj h; exact ⟨(hw _ (List.mem_of_getElem? (i := 55) rfl)), (hw _ (List.mem_of_getElem? (i := 56) rfl)), Or.inl (hw _ (List.mem_of_getElem? (i := 57) rfl))⟩, by intro z h; obtain rfl : cm13 = z := Option.some.inj h; exact ⟨(hw _ (List.mem_of_getElem? (i := 120) rfl)), (hw _ (List.mem_of_getElem? (i := 121) rfl)), Or.inl (hw _ (List.mem_of_getElem? (i := 122) rfl))⟩, by intro z h; obtain rfl : cm7 = z := Option.some.inj h; exact ⟨(hw _ (List.mem_of_getElem? (i := 59) rfl)), (hw _ (List.mem_of_getElem? (i := 60) rfl)), Or.inl (hw _ (List.mem_of_getElem? (i := 61) rfl))⟩, by intro z h; obtain rfl : cm10 = z := Option.some.inj h; exact ⟨(hw _ (List.mem_of_getElem? (i := 71) rfl)), (hw _ (List.mem_of_getElem? (i := 72) rfl)), Or.inl (hw _ (List.mem_of_getElem? (i := 73) rfl))⟩, by intro z h; obtain rfl : cm9 = z := Option.some.inj h; exact ⟨(hw _ (List.mem_of_getElem? (i := 88) rfl)), (hw _ (List.mem_of_getElem? (i := 89) rfl)), Or.inl (hw _ (List.mem_of_getElem? (i := 90) rfl))⟩, by intro z h; obtain rfl : cm23 = z := Option.some.inj h; exact ⟨(hw _ (List.mem_of_getElem? (i := 92) rfl)), (hw _ (List.mem_of_getElem? (i := 93) rfl)), Or.inl (hw _ (List.mem_of_getElem? (i := 94) rfl))⟩, trivial⟩),
   (by first | (simp [plainName, overriddenIn]; done) | decide +kernel),
   (by decide),
   (by intro me h; obtain rfl : cm0 = me := Option.some.inj h; rfl)⟩
theorem lkL (Z : State) (a0 : Array Value) (hw : ∀ d ∈ tables_1, d.before a0 Z = true) : LinkL PP QQ Z a0 :=
  ⟨⟨(hw _ (List.mem_of_getElem? (i := 0) rfl)), (hw _ (List.mem_of_getElem? (i := 1) rfl))⟩,
   (by intro me h; obtain rfl : cm0 = me := Option.some.inj h; exact ⟨(hw _ (List.mem_of_getElem? (i := 3) rfl)), (hw _ (List.mem_of_getElem? (i := 4) rfl)), rfl⟩),
   asc_all (⟨by intro z h; obtain rfl : cm24 = z := Option.some.inj h; exact ⟨(hw _ (List.mem_of_getElem? (i := 100) rfl)), (hw _ (List.mem_of_getElem? (i := 101) rfl)), (hw _ (List.mem_of_getElem? (i := 102) rfl)), (hw _ (List.mem_of_getElem? (i := 103) rfl))⟩, by intro z h; obtain rfl : cm25 = z := Option.some.inj h; exact ⟨(hw _ (List.mem_of_getElem? (i := 105) rfl)), (hw _ (List.mem_of_getElem? (i := 106) rfl)), (hw _ (List.mem_of_getElem? (i := 107) rfl)), (hw _ (List.mem_of_getElem? (i := 108) rfl))⟩, by intro z h; obtain rfl : cm15 = z := Option.some.inj h; exact ⟨(hw _ (List.mem_of_getElem? (i := 45) rfl)), (hw _ (List.mem_of_getElem? (i := 46) rfl)), (hw _ (List.mem_of_getElem? (i := 47) rfl)), (hw _ (List.mem_of_getElem? (i := 48) rfl))⟩, by intro z h; obtain rfl : cm19 = z := Option.some.inj h; exact ⟨(hw _ (List.mem_of_getElem? (i := 50) rfl)), (hw _ (List.mem_of_getElem? (i := 51) rfl)), (hw _ (List.mem_of_getElem? (i := 52) rfl)), (hw _ (List.mem_of_getElem? (i := 53) rfl))⟩, by intro z h; obtain rfl : cm16 = z := Option.some.inj h; exact ⟨(hw _ (List.mem_of_getElem? (i := 115) rfl)), (hw _ (List.mem_of_getElem? (i := 116) rfl)), (hw _ (List.mem_of_getElem? (i := 117) rfl)), (hw _ (List.mem_of_getElem? (i := 118) rfl))⟩, by intro z h; obtain rfl : cm22 = z := Option.some.inj h; exact ⟨(hw _ (List.mem_of_getElem? (i := 83) rfl)), (hw _ (List.mem_of_getElem? (i := 84) rfl)), (hw _ (List.mem_of_getElem? (i := 85) rfl)), (hw _ (List.mem_of_getElem? (i := 86) rfl))⟩, by intro z h; obtain rfl : cm17 = z := Option.some.inj h; exact ⟨(hw _ (List.mem_of_getElem? (i := 110) rfl)), (hw _ (List.mem_of_getElem? (i := 111) rfl)), (hw _ (List.mem_of_getElem? (i := 112) rfl)), (hw _ (List.mem_of_getElem? (i := 113) rfl))⟩, trivial⟩),
   asc_all (⟨by intro z h; obtain rfl : lm2 = z := Option.some.inj h; exact ⟨(hw _ (List.mem_of_getElem? (i := 96) rfl)), (hw _ (List.mem_of_getElem? (i := 97) rfl)), (hw _ (List.mem_of_getElem? (i := 98) rfl))⟩, trivial⟩),
   asc_all (trivial),
   asc_all (⟨fun h => absurd rfl h, fun _ => ⟨method_2_code, [.object "ReadinessPoller", .int, .int, .int], (hw _ (List.mem_of_getElem? (i := 99) rfl)), chk_ok dk_l2, pk_l2, rfl⟩, trivial⟩),
   (by first | (simp [plainName, overriddenIn]; done) | decide +kernel),
   (by decide)⟩
theorem c2_in (a1 : Int32) (a2 : Int32) (a3 : Int32) (s : St) (Q : Int32 → St → Prop) (h : ((a1 < a2) → Q a2 s) ∧ (¬ (a1 < a2) → ((a3 < a1) → Q a3 s) ∧ (¬ (a3 < a1) → Q a1 s))) : calI PP 2 11 [.ref 0, .int a1, .int a2, .int a3] s Q := by
  refine cal_of (me := cm2) (ls := [some (.ref 0), some (.int a1), some (.int a2), some (.int a3)]) rfl (Nat.le_of_ble_eq_true rfl) rfl ?_
  refine wpc_sl (n := 2) (c' := 11) (pc' := 2) (ls' := [some (.ref 0), some (.int a1), some (.int a2), some (.int a3)]) (st' := [.int a2, .int a1]) (s' := s) rfl ?_
  refine wpc_icmp (a := 7) (b := 5) rfl (by decide) rfl rfl (wpc_br (p := a1 < a2) ⟨fun hc218 => ?_, fun hc218 => ?_⟩)
  · have h219 := h.1 hc218
    refine wpc_sl (n := 1) (c' := 11) (pc' := 6) (ls' := [some (.ref 0), some (.int a1), some (.int a2), some (.int a3)]) (st' := [.int a2]) (s' := s) rfl ?_
    exact wpc_ret rfl rfl (fun q => absurd q (by decide)) rfl ⟨a2, rfl, h219⟩
  · have h220 := h.2 hc218
    refine wpc_sl (n := 2) (c' := 11) (pc' := 9) (ls' := [some (.ref 0), some (.int a1), some (.int a2), some (.int a3)]) (st' := [.int a3, .int a1]) (s' := s) rfl ?_
    refine wpc_icmp (a := 14) (b := 12) rfl (by decide) rfl rfl (wpc_br (p := a3 < a1) ⟨fun hc221 => ?_, fun hc221 => ?_⟩)
    · have h222 := h220.1 hc221
      refine wpc_sl (n := 1) (c' := 11) (pc' := 13) (ls' := [some (.ref 0), some (.int a1), some (.int a2), some (.int a3)]) (st' := [.int a3]) (s' := s) rfl ?_
      exact wpc_ret rfl rfl (fun q => absurd q (by decide)) rfl ⟨a3, rfl, h222⟩
    · have h223 := h220.2 hc221
      refine wpc_sl (n := 1) (c' := 11) (pc' := 15) (ls' := [some (.ref 0), some (.int a1), some (.int a2), some (.int a3)]) (st' := [.int a1]) (s' := s) rfl ?_
      exact wpc_ret rfl rfl (fun q => absurd q (by decide)) rfl ⟨a1, rfl, h223⟩
theorem c0_in (a1 : Int32) (a2 : Int32) (a3 : Int32) (s : St) (Q : St → Prop) (h : calI PP 2 11 [.ref 0, .int a1, .int (1 : Int32), .int (8 : Int32)] s (fun v210 s209 => calI PP 2 11 [.ref 0, .int a2, .int (1 : Int32), .int (16 : Int32)] (sI s209 0 17 v210) (fun v213 s212 => calI PP 2 11 [.ref 0, .int a3, .int (1 : Int32), .int (4 : Int32)] (sI s212 0 18 v213) (fun v216 s215 => Q (sI (sI s215 0 19 v216) 0 31 (0 : Int32)))))) : calV PP 0 0 [.ref 0, .int a1, .int a2, .int a3] s Q := by
  refine cal_of (me := cm0) (ls := [some (.ref 0), some (.int a1), some (.int a2), some (.int a3)]) rfl (Nat.le_of_ble_eq_true rfl) rfl ?_
  refine wpc_sl (n := 40) (c' := 11) (pc' := 99) (ls' := [some (.ref 0), some (.int a1), some (.int a2), some (.int a3)]) (st' := [.int (8 : Int32), .int (1 : Int32), .int a1, .ref 0, .ref 0]) (s' := s) rfl ?_
  refine wpc_callI (m' := 2) (me' := cm2) (as := [.int a1, .int (1 : Int32), .int (8 : Int32)]) (r := [.ref 0]) rfl rfl rfl rfl rfl ⟨by decide, (by first | decide | exact Nat.le_of_ble_eq_true rfl), (by first | decide | exact Nat.le_of_ble_eq_true rfl), rfl⟩ (calI.mono h fun v210 s209 h211 => ?_)
  refine wpc_sl (n := 6) (c' := 11) (pc' := 111) (ls' := [some (.ref 0), some (.int a1), some (.int a2), some (.int a3)]) (st' := [.int (16 : Int32), .int (1 : Int32), .int a2, .ref 0, .ref 0]) (s' := (sI s209 0 17 v210)) rfl ?_
  refine wpc_callI (m' := 2) (me' := cm2) (as := [.int a2, .int (1 : Int32), .int (16 : Int32)]) (r := [.ref 0]) rfl rfl rfl rfl rfl ⟨by decide, (by first | decide | exact Nat.le_of_ble_eq_true rfl), (by first | decide | exact Nat.le_of_ble_eq_true rfl), rfl⟩ (calI.mono h211 fun v213 s212 h214 => ?_)
  refine wpc_sl (n := 6) (c' := 11) (pc' := 122) (ls' := [some (.ref 0), some (.int a1), some (.int a2), some (.int a3)]) (st' := [.int (4 : Int32), .int (1 : Int32), .int a3, .ref 0, .ref 0]) (s' := (sI s212 0 18 v213)) rfl ?_
  refine wpc_callI (m' := 2) (me' := cm2) (as := [.int a3, .int (1 : Int32), .int (4 : Int32)]) (r := [.ref 0]) rfl rfl rfl rfl rfl ⟨by decide, (by first | decide | exact Nat.le_of_ble_eq_true rfl), (by first | decide | exact Nat.le_of_ble_eq_true rfl), rfl⟩ (calI.mono h214 fun v216 s215 h217 => ?_)
  refine wpc_sl (n := 4) (c' := 11) (pc' := 133) (ls' := [some (.ref 0), some (.int a1), some (.int a2), some (.int a3)]) (st' := []) (s' := (sI (sI s215 0 19 v216) 0 31 (0 : Int32))) rfl ?_
  exact wpc_ret rfl rfl (fun _ => rfl) rfl ⟨rfl, h217⟩
theorem c15_in  (s : St) (Q : Int32 → St → Prop) (h : wpcI PP 15 cm15 11 2 [some (.ref 0), some (.int (0 : Int32))] [] s Q) : calI PP 15 11 [.ref 0] s Q := by
  refine cal_of (me := cm15) (ls := [some (.ref 0), none]) rfl (Nat.le_of_ble_eq_true rfl) rfl ?_
  refine wpc_sl (n := 2) (c' := 11) (pc' := 2) (ls' := [some (.ref 0), some (.int (0 : Int32))]) (st' := []) (s' := s) rfl ?_
  exact h
theorem c15_2 (x1 : Int32) (s : St) (Q : Int32 → St → Prop) (h : ((x1 < (gI s 0 17)) → inb 8 x1 ∧ (((gI s 1 (ix x1)) = (0 : Int32)) → inb 8 x1 ∧ (((gI s 2 (ix x1)) = (0 : Int32)) → inb 8 x1 ∧ inb 8 x1 ∧ inb 8 x1 ∧ inb 8 x1 ∧ Q x1 (sI (sI (sI (sI s 1 (ix x1) (1 : Int32)) 2 (ix x1) (1 : Int32)) 4 (ix x1) (0 : Int32)) 5 (ix x1) (0 : Int32))) ∧ (¬ ((gI s 2 (ix x1)) = (0 : Int32)) → wpcI PP 15 cm15 11 58 [some (.ref 0), some (.int x1)] [] s Q)) ∧ (¬ ((gI s 1 (ix x1)) = (0 : Int32)) → wpcI PP 15 cm15 11 58 [some (.ref 0), some (.int x1)] [] s Q)) ∧ (¬ (x1 < (gI s 0 17)) → Q (-8 : Int32) s)) : wpcI PP 15 cm15 11 2 [some (.ref 0), some (.int x1)] [] s Q := by
  refine wpc_sl (n := 3) (c' := 11) (pc' := 7) (ls' := [some (.ref 0), some (.int x1)]) (st' := [.int (gI s 0 17), .int x1]) (s' := s) rfl ?_
  refine wpc_icmp (a := 64) (b := 10) rfl (by decide) rfl rfl (wpc_br (p := x1 < (gI s 0 17)) ⟨fun hc224 => ?_, fun hc224 => ?_⟩)
  · have h225 := h.1 hc224
    refine wpc_sl (n := 3) (c' := 11) (pc' := 15) (ls' := [some (.ref 0), some (.int x1)]) (st' := [.int x1, .ref 1]) (s' := s) rfl ?_
    refine wpc_ldaZ (a := 0) (N := 8) (v := (gI s 1 (ix x1))) rfl rfl (by decide) h225.1 rfl ?_
    have h227 := h225.2
    refine wpc_if (a := 58) (b := 19) rfl (by decide) rfl rfl (wpc_br (p := (gI s 1 (ix x1)) = (0 : Int32)) ⟨fun hc228 => ?_, fun hc228 => ?_⟩)
    · have h229 := h227.1 hc228
      refine wpc_sl (n := 3) (c' := 11) (pc' := 24) (ls' := [some (.ref 0), some (.int x1)]) (st' := [.int x1, .ref 2]) (s' := s) rfl ?_
      refine wpc_ldaZ (a := 1) (N := 8) (v := (gI s 2 (ix x1))) rfl rfl (by decide) h229.1 rfl ?_
      have h231 := h229.2
      refine wpc_if (a := 58) (b := 28) rfl (by decide) rfl rfl (wpc_br (p := (gI s 2 (ix x1)) = (0 : Int32)) ⟨fun hc232 => ?_, fun hc232 => ?_⟩)
      · have h233 := h231.1 hc232
        refine wpc_sl (n := 4) (c' := 11) (pc' := 34) (ls' := [some (.ref 0), some (.int x1)]) (st' := [.int (1 : Int32), .int x1, .ref 1]) (s' := s) rfl ?_
        refine wpc_staZ (a := 0) (N := 8) (s' := (sI s 1 (ix x1) (1 : Int32))) rfl rfl (by decide) h233.1 rfl ?_
        have h235 := h233.2
        refine wpc_sl (n := 4) (c' := 11) (pc' := 41) (ls' := [some (.ref 0), some (.int x1)]) (st' := [.int (1 : Int32), .int x1, .ref 2]) (s' := (sI s 1 (ix x1) (1 : Int32))) rfl ?_
        refine wpc_staZ (a := 1) (N := 8) (s' := (sI (sI s 1 (ix x1) (1 : Int32)) 2 (ix x1) (1 : Int32))) rfl rfl (by decide) h235.1 rfl ?_
        have h236 := h235.2
        refine wpc_sl (n := 4) (c' := 11) (pc' := 48) (ls' := [some (.ref 0), some (.int x1)]) (st' := [.int (0 : Int32), .int x1, .ref 4]) (s' := (sI (sI s 1 (ix x1) (1 : Int32)) 2 (ix x1) (1 : Int32))) rfl ?_
        refine wpc_staI (a := 3) (N := 8) (s' := (sI (sI (sI s 1 (ix x1) (1 : Int32)) 2 (ix x1) (1 : Int32)) 4 (ix x1) (0 : Int32))) rfl rfl (by decide) h236.1 rfl ?_
        have h237 := h236.2
        refine wpc_sl (n := 4) (c' := 11) (pc' := 55) (ls' := [some (.ref 0), some (.int x1)]) (st' := [.int (0 : Int32), .int x1, .ref 5]) (s' := (sI (sI (sI s 1 (ix x1) (1 : Int32)) 2 (ix x1) (1 : Int32)) 4 (ix x1) (0 : Int32))) rfl ?_
        refine wpc_staI (a := 4) (N := 8) (s' := (sI (sI (sI (sI s 1 (ix x1) (1 : Int32)) 2 (ix x1) (1 : Int32)) 4 (ix x1) (0 : Int32)) 5 (ix x1) (0 : Int32))) rfl rfl (by decide) h237.1 rfl ?_
        have h238 := h237.2
        refine wpc_sl (n := 1) (c' := 11) (pc' := 57) (ls' := [some (.ref 0), some (.int x1)]) (st' := [.int x1]) (s' := (sI (sI (sI (sI s 1 (ix x1) (1 : Int32)) 2 (ix x1) (1 : Int32)) 4 (ix x1) (0 : Int32)) 5 (ix x1) (0 : Int32))) rfl ?_
        exact wpc_ret rfl rfl (fun q => absurd q (by decide)) rfl ⟨x1, rfl, h238⟩
      · have h234 := h231.2 hc232
        exact h234
    · have h230 := h227.2 hc228
      exact h230
  · have h226 := h.2 hc224
    refine wpc_sl (n := 1) (c' := 11) (pc' := 66) (ls' := [some (.ref 0), some (.int x1)]) (st' := [.int (-8 : Int32)]) (s' := s) rfl ?_
    exact wpc_ret rfl rfl (fun q => absurd q (by decide)) rfl ⟨(-8 : Int32), rfl, h226⟩
theorem c15_58 (x1 : Int32) (s : St) (Q : Int32 → St → Prop) (h : wpcI PP 15 cm15 11 2 [some (.ref 0), some (.int (x1 + (1 : Int32)))] [] s Q) : wpcI PP 15 cm15 11 58 [some (.ref 0), some (.int x1)] [] s Q := by
  refine wpc_sl (n := 2) (c' := 11) (pc' := 2) (ls' := [some (.ref 0), some (.int (x1 + (1 : Int32)))]) (st' := []) (s' := s) rfl ?_
  exact h
theorem c6_in (a1 : Int32) (s : St) (Q : Int32 → St → Prop) (h : ((a1 < (0 : Int32)) → Q (0 : Int32) s) ∧ (¬ (a1 < (0 : Int32)) → ((a1 < (gI s 0 19)) → Q (1 : Int32) s) ∧ (¬ (a1 < (gI s 0 19)) → Q (0 : Int32) s))) : calI PP 6 11 [.ref 0, .int a1] s Q := by
  refine cal_of (me := cm6) (ls := [some (.ref 0), some (.int a1)]) rfl (Nat.le_of_ble_eq_true rfl) rfl ?_
  refine wpc_sl (n := 1) (c' := 11) (pc' := 1) (ls' := [some (.ref 0), some (.int a1)]) (st' := [.int a1]) (s' := s) rfl ?_
  refine wpc_if (a := 16) (b := 4) rfl (by decide) rfl rfl (wpc_br (p := a1 < (0 : Int32)) ⟨fun hc268 => ?_, fun hc268 => ?_⟩)
  · have h269 := h.1 hc268
    refine wpc_sl (n := 1) (c' := 11) (pc' := 17) (ls' := [some (.ref 0), some (.int a1)]) (st' := [.int (0 : Int32)]) (s' := s) rfl ?_
    exact wpc_ret rfl rfl (fun q => absurd q (by decide)) rfl ⟨(0 : Int32), rfl, h269⟩
  · have h270 := h.2 hc268
    refine wpc_sl (n := 3) (c' := 11) (pc' := 9) (ls' := [some (.ref 0), some (.int a1)]) (st' := [.int (gI s 0 19), .int a1]) (s' := s) rfl ?_
    refine wpc_icmp (a := 16) (b := 12) rfl (by decide) rfl rfl (wpc_br (p := a1 < (gI s 0 19)) ⟨fun hc271 => ?_, fun hc271 => ?_⟩)
    · have h272 := h270.1 hc271
      refine wpc_sl (n := 2) (c' := 11) (pc' := 17) (ls' := [some (.ref 0), some (.int a1)]) (st' := [.int (1 : Int32)]) (s' := s) rfl ?_
      exact wpc_ret rfl rfl (fun q => absurd q (by decide)) rfl ⟨(1 : Int32), rfl, h272⟩
    · have h273 := h270.2 hc271
      refine wpc_sl (n := 1) (c' := 11) (pc' := 17) (ls' := [some (.ref 0), some (.int a1)]) (st' := [.int (0 : Int32)]) (s' := s) rfl ?_
      exact wpc_ret rfl rfl (fun q => absurd q (by decide)) rfl ⟨(0 : Int32), rfl, h273⟩
theorem c7_in (a1 : Int32) (s : St) (Q : Int32 → St → Prop) (h : (((a1 &&& (-52 : Int32)) = (0 : Int32)) → Q (1 : Int32) s) ∧ (¬ ((a1 &&& (-52 : Int32)) = (0 : Int32)) → Q (0 : Int32) s)) : calI PP 7 11 [.ref 0, .int a1] s Q := by
  refine cal_of (me := cm7) (ls := [some (.ref 0), some (.int a1)]) rfl (Nat.le_of_ble_eq_true rfl) rfl ?_
  refine wpc_sl (n := 3) (c' := 11) (pc' := 4) (ls' := [some (.ref 0), some (.int a1)]) (st' := [.int (a1 &&& (-52 : Int32))]) (s' := s) rfl ?_
  refine wpc_if (a := 11) (b := 7) rfl (by decide) rfl rfl (wpc_br (p := (a1 &&& (-52 : Int32)) = (0 : Int32)) ⟨fun hc274 => ?_, fun hc274 => ?_⟩)
  · have h275 := h.1 hc274
    refine wpc_sl (n := 2) (c' := 11) (pc' := 12) (ls' := [some (.ref 0), some (.int a1)]) (st' := [.int (1 : Int32)]) (s' := s) rfl ?_
    exact wpc_ret rfl rfl (fun q => absurd q (by decide)) rfl ⟨(1 : Int32), rfl, h275⟩
  · have h276 := h.2 hc274
    refine wpc_sl (n := 1) (c' := 11) (pc' := 12) (ls' := [some (.ref 0), some (.int a1)]) (st' := [.int (0 : Int32)]) (s' := s) rfl ?_
    exact wpc_ret rfl rfl (fun q => absurd q (by decide)) rfl ⟨(0 : Int32), rfl, h276⟩
theorem c3_in (a1 : Int32) (s : St) (Q : Int32 → St → Prop) (h : ((a1 < (0 : Int32)) → Q (0 : Int32) s) ∧ (¬ (a1 < (0 : Int32)) → ((a1 < ((2 : Int32) * (gI s 0 17))) → (((a1 &&& (1 : Int32)) = (0 : Int32)) → inb 8 (a1 >>> ((1 : Int32) &&& 31)) ∧ Q ((gI s 1 (ix (a1 >>> ((1 : Int32) &&& 31)))) &&& 1) s) ∧ (¬ ((a1 &&& (1 : Int32)) = (0 : Int32)) → inb 8 (a1 >>> ((1 : Int32) &&& 31)) ∧ Q ((gI s 2 (ix (a1 >>> ((1 : Int32) &&& 31)))) &&& 1) s)) ∧ (¬ (a1 < ((2 : Int32) * (gI s 0 17))) → Q (0 : Int32) s))) : calI PP 3 11 [.ref 0, .int a1] s Q := by
  refine cal_of (me := cm3) (ls := [some (.ref 0), some (.int a1), none]) rfl (Nat.le_of_ble_eq_true rfl) rfl ?_
  refine wpc_sl (n := 1) (c' := 11) (pc' := 1) (ls' := [some (.ref 0), some (.int a1), none]) (st' := [.int a1]) (s' := s) rfl ?_
  refine wpc_if (a := 14) (b := 4) rfl (by decide) rfl rfl (wpc_br (p := a1 < (0 : Int32)) ⟨fun hc277 => ?_, fun hc277 => ?_⟩)
  · have h278 := h.1 hc277
    refine wpc_sl (n := 1) (c' := 11) (pc' := 15) (ls' := [some (.ref 0), some (.int a1), none]) (st' := [.int (0 : Int32)]) (s' := s) rfl ?_
    exact wpc_ret rfl rfl (fun q => absurd q (by decide)) rfl ⟨(0 : Int32), rfl, h278⟩
  · have h279 := h.2 hc277
    refine wpc_sl (n := 5) (c' := 11) (pc' := 11) (ls' := [some (.ref 0), some (.int a1), none]) (st' := [.int ((2 : Int32) * (gI s 0 17)), .int a1]) (s' := s) rfl ?_
    refine wpc_icmp (a := 16) (b := 14) rfl (by decide) rfl rfl (wpc_br (p := a1 < ((2 : Int32) * (gI s 0 17))) ⟨fun hc280 => ?_, fun hc280 => ?_⟩)
    · have h281 := h279.1 hc280
      refine wpc_sl (n := 7) (c' := 11) (pc' := 23) (ls' := [some (.ref 0), some (.int a1), some (.int (a1 >>> ((1 : Int32) &&& 31)))]) (st' := [.int (a1 &&& (1 : Int32))]) (s' := s) rfl ?_
      refine wpc_if (a := 33) (b := 26) rfl (by decide) rfl rfl (wpc_br (p := (a1 &&& (1 : Int32)) = (0 : Int32)) ⟨fun hc283 => ?_, fun hc283 => ?_⟩)
      · have h284 := h281.1 hc283
        refine wpc_sl (n := 3) (c' := 11) (pc' := 31) (ls' := [some (.ref 0), some (.int a1), some (.int (a1 >>> ((1 : Int32) &&& 31)))]) (st' := [.int (a1 >>> ((1 : Int32) &&& 31)), .ref 1]) (s' := s) rfl ?_
        refine wpc_ldaZ (a := 0) (N := 8) (v := (gI s 1 (ix (a1 >>> ((1 : Int32) &&& 31))))) rfl rfl (by decide) h284.1 rfl ?_
        have h286 := h284.2
        exact wpc_ret rfl rfl (fun q => absurd q (by decide)) rfl ⟨((gI s 1 (ix (a1 >>> ((1 : Int32) &&& 31)))) &&& 1), rfl, h286⟩
      · have h285 := h281.2 hc283
        refine wpc_sl (n := 3) (c' := 11) (pc' := 38) (ls' := [some (.ref 0), some (.int a1), some (.int (a1 >>> ((1 : Int32) &&& 31)))]) (st' := [.int (a1 >>> ((1 : Int32) &&& 31)), .ref 2]) (s' := s) rfl ?_
        refine wpc_ldaZ (a := 1) (N := 8) (v := (gI s 2 (ix (a1 >>> ((1 : Int32) &&& 31))))) rfl rfl (by decide) h285.1 rfl ?_
        have h287 := h285.2
        exact wpc_ret rfl rfl (fun q => absurd q (by decide)) rfl ⟨((gI s 2 (ix (a1 >>> ((1 : Int32) &&& 31)))) &&& 1), rfl, h287⟩
    · have h282 := h279.2 hc280
      refine wpc_sl (n := 1) (c' := 11) (pc' := 15) (ls' := [some (.ref 0), some (.int a1), none]) (st' := [.int (0 : Int32)]) (s' := s) rfl ?_
      exact wpc_ret rfl rfl (fun q => absurd q (by decide)) rfl ⟨(0 : Int32), rfl, h282⟩
theorem c8_in (a1 : Int32) (a2 : Int32) (s : St) (Q : Int32 → St → Prop) (h : Q ((a1 * (16 : Int32)) + a2) s) : calI PP 8 11 [.ref 0, .int a1, .int a2] s Q := by
  refine cal_of (me := cm8) (ls := [some (.ref 0), some (.int a1), some (.int a2)]) rfl (Nat.le_of_ble_eq_true rfl) rfl ?_
  refine wpc_sl (n := 5) (c' := 11) (pc' := 6) (ls' := [some (.ref 0), some (.int a1), some (.int a2)]) (st' := [.int ((a1 * (16 : Int32)) + a2)]) (s' := s) rfl ?_
  exact wpc_ret rfl rfl (fun q => absurd q (by decide)) rfl ⟨((a1 * (16 : Int32)) + a2), rfl, h⟩
theorem c4_in (a1 : Int32) (s : St) (Q : Int32 → St → Prop) (h : (((a1 &&& (1 : Int32)) = (0 : Int32)) → inb 8 (a1 >>> ((1 : Int32) &&& 31)) ∧ (((0 : Int32) < (gI s 5 (ix (a1 >>> ((1 : Int32) &&& 31))))) → inb 8 (a1 >>> ((1 : Int32) &&& 31)) ∧ (((gI s 2 (ix (a1 >>> ((1 : Int32) &&& 31)))) = (0 : Int32)) → Q (((0 : Int32) ||| (1 : Int32)) ||| (4 : Int32)) s) ∧ (¬ ((gI s 2 (ix (a1 >>> ((1 : Int32) &&& 31)))) = (0 : Int32)) → Q ((0 : Int32) ||| (1 : Int32)) s)) ∧ (¬ ((0 : Int32) < (gI s 5 (ix (a1 >>> ((1 : Int32) &&& 31))))) → inb 8 (a1 >>> ((1 : Int32) &&& 31)) ∧ ∀ m313, m313 = (if (gI s 2 (ix (a1 >>> ((1 : Int32) &&& 31)))) = (0 : Int32) then ((0 : Int32) ||| (1 : Int32)) else (0 : Int32)) → (inb 8 (a1 >>> ((1 : Int32) &&& 31)) ∧ (((gI s 2 (ix (a1 >>> ((1 : Int32) &&& 31)))) = (0 : Int32)) → Q (m313 ||| (4 : Int32)) s) ∧ (¬ ((gI s 2 (ix (a1 >>> ((1 : Int32) &&& 31)))) = (0 : Int32)) → Q m313 s)))) ∧ (¬ ((a1 &&& (1 : Int32)) = (0 : Int32)) → inb 8 (a1 >>> ((1 : Int32) &&& 31)) ∧ (((gI s 5 (ix (a1 >>> ((1 : Int32) &&& 31)))) < (gI s 0 18)) → inb 8 (a1 >>> ((1 : Int32) &&& 31)) ∧ (((gI s 1 (ix (a1 >>> ((1 : Int32) &&& 31)))) = (0 : Int32)) → Q (((0 : Int32) ||| (2 : Int32)) ||| (8 : Int32)) s) ∧ (¬ ((gI s 1 (ix (a1 >>> ((1 : Int32) &&& 31)))) = (0 : Int32)) → Q ((0 : Int32) ||| (2 : Int32)) s)) ∧ (¬ ((gI s 5 (ix (a1 >>> ((1 : Int32) &&& 31)))) < (gI s 0 18)) → inb 8 (a1 >>> ((1 : Int32) &&& 31)) ∧ ∀ m330, m330 = (if (gI s 1 (ix (a1 >>> ((1 : Int32) &&& 31)))) = (0 : Int32) then ((0 : Int32) ||| (2 : Int32)) else (0 : Int32)) → (inb 8 (a1 >>> ((1 : Int32) &&& 31)) ∧ (((gI s 1 (ix (a1 >>> ((1 : Int32) &&& 31)))) = (0 : Int32)) → Q (m330 ||| (8 : Int32)) s) ∧ (¬ ((gI s 1 (ix (a1 >>> ((1 : Int32) &&& 31)))) = (0 : Int32)) → Q m330 s))))) : calI PP 4 11 [.ref 0, .int a1] s Q := by
  refine cal_of (me := cm4) (ls := [some (.ref 0), some (.int a1), none, none]) rfl (Nat.le_of_ble_eq_true rfl) rfl ?_
  refine wpc_sl (n := 9) (c' := 11) (pc' := 9) (ls' := [some (.ref 0), some (.int a1), some (.int (a1 >>> ((1 : Int32) &&& 31))), some (.int (0 : Int32))]) (st' := [.int (a1 &&& (1 : Int32))]) (s' := s) rfl ?_
  refine wpc_if (a := 50) (b := 12) rfl (by decide) rfl rfl (wpc_br (p := (a1 &&& (1 : Int32)) = (0 : Int32)) ⟨fun hc301 => ?_, fun hc301 => ?_⟩)
  · have h302 := h.1 hc301
    refine wpc_sl (n := 3) (c' := 11) (pc' := 17) (ls' := [some (.ref 0), some (.int a1), some (.int (a1 >>> ((1 : Int32) &&& 31))), some (.int (0 : Int32))]) (st' := [.int (a1 >>> ((1 : Int32) &&& 31)), .ref 5]) (s' := s) rfl ?_
    refine wpc_ldaI (a := 4) (N := 8) (v := (gI s 5 (ix (a1 >>> ((1 : Int32) &&& 31))))) rfl rfl (by decide) h302.1 rfl ?_
    have h304 := h302.2
    refine wpc_if (a := 30) (b := 21) rfl (by decide) rfl rfl (wpc_br (p := (0 : Int32) < (gI s 5 (ix (a1 >>> ((1 : Int32) &&& 31))))) ⟨fun hc305 => ?_, fun hc305 => ?_⟩)
    · have h306 := h304.1 hc305
      refine wpc_sl (n := 7) (c' := 11) (pc' := 39) (ls' := [some (.ref 0), some (.int a1), some (.int (a1 >>> ((1 : Int32) &&& 31))), some (.int ((0 : Int32) ||| (1 : Int32)))]) (st' := [.int (a1 >>> ((1 : Int32) &&& 31)), .ref 2]) (s' := s) rfl ?_
      refine wpc_ldaZ (a := 1) (N := 8) (v := (gI s 2 (ix (a1 >>> ((1 : Int32) &&& 31))))) rfl rfl (by decide) h306.1 rfl ?_
      have h308 := h306.2
      refine wpc_if (a := 90) (b := 43) rfl (by decide) rfl rfl (wpc_br (p := (gI s 2 (ix (a1 >>> ((1 : Int32) &&& 31)))) = (0 : Int32)) ⟨fun hc309 => ?_, fun hc309 => ?_⟩)
      · have h310 := h308.1 hc309
        refine wpc_sl (n := 6) (c' := 11) (pc' := 91) (ls' := [some (.ref 0), some (.int a1), some (.int (a1 >>> ((1 : Int32) &&& 31))), some (.int (((0 : Int32) ||| (1 : Int32)) ||| (4 : Int32)))]) (st' := [.int (((0 : Int32) ||| (1 : Int32)) ||| (4 : Int32))]) (s' := s) rfl ?_
        exact wpc_ret rfl rfl (fun q => absurd q (by decide)) rfl ⟨(((0 : Int32) ||| (1 : Int32)) ||| (4 : Int32)), rfl, h310⟩
      · have h311 := h308.2 hc309
        refine wpc_sl (n := 1) (c' := 11) (pc' := 91) (ls' := [some (.ref 0), some (.int a1), some (.int (a1 >>> ((1 : Int32) &&& 31))), some (.int ((0 : Int32) ||| (1 : Int32)))]) (st' := [.int ((0 : Int32) ||| (1 : Int32))]) (s' := s) rfl ?_
        exact wpc_ret rfl rfl (fun q => absurd q (by decide)) rfl ⟨((0 : Int32) ||| (1 : Int32)), rfl, h311⟩
    · have h307 := h304.2 hc305
      refine wpc_sl (n := 3) (c' := 11) (pc' := 26) (ls' := [some (.ref 0), some (.int a1), some (.int (a1 >>> ((1 : Int32) &&& 31))), some (.int (0 : Int32))]) (st' := [.int (a1 >>> ((1 : Int32) &&& 31)), .ref 2]) (s' := s) rfl ?_
      refine wpc_ldaZ (a := 1) (N := 8) (v := (gI s 2 (ix (a1 >>> ((1 : Int32) &&& 31))))) rfl rfl (by decide) h307.1 rfl ?_
      have h312 := h307.2
      have hm314 : ∀ m313, m313 = (if (gI s 2 (ix (a1 >>> ((1 : Int32) &&& 31)))) = (0 : Int32) then ((0 : Int32) ||| (1 : Int32)) else (0 : Int32)) → wpcI PP 4 cm4 11 34 [some (.ref 0), some (.int a1), some (.int (a1 >>> ((1 : Int32) &&& 31))), some (.int m313)] [] s Q := by
        intro m313 em313
        have h315 := h312 m313 em313
        refine wpc_sl (n := 3) (c' := 11) (pc' := 39) (ls' := [some (.ref 0), some (.int a1), some (.int (a1 >>> ((1 : Int32) &&& 31))), some (.int m313)]) (st' := [.int (a1 >>> ((1 : Int32) &&& 31)), .ref 2]) (s' := s) rfl ?_
        refine wpc_ldaZ (a := 1) (N := 8) (v := (gI s 2 (ix (a1 >>> ((1 : Int32) &&& 31))))) rfl rfl (by decide) h315.1 rfl ?_
        have h316 := h315.2
        refine wpc_if (a := 90) (b := 43) rfl (by decide) rfl rfl (wpc_br (p := (gI s 2 (ix (a1 >>> ((1 : Int32) &&& 31)))) = (0 : Int32)) ⟨fun hc317 => ?_, fun hc317 => ?_⟩)
        · have h318 := h316.1 hc317
          refine wpc_sl (n := 6) (c' := 11) (pc' := 91) (ls' := [some (.ref 0), some (.int a1), some (.int (a1 >>> ((1 : Int32) &&& 31))), some (.int (m313 ||| (4 : Int32)))]) (st' := [.int (m313 ||| (4 : Int32))]) (s' := s) rfl ?_
          exact wpc_ret rfl rfl (fun q => absurd q (by decide)) rfl ⟨(m313 ||| (4 : Int32)), rfl, h318⟩
        · have h319 := h316.2 hc317
          refine wpc_sl (n := 1) (c' := 11) (pc' := 91) (ls' := [some (.ref 0), some (.int a1), some (.int (a1 >>> ((1 : Int32) &&& 31))), some (.int m313)]) (st' := [.int m313]) (s' := s) rfl ?_
          exact wpc_ret rfl rfl (fun q => absurd q (by decide)) rfl ⟨m313, rfl, h319⟩
      refine wpc_if (a := 34) (b := 30) rfl (by decide) rfl rfl (wpc_br (p := (gI s 2 (ix (a1 >>> ((1 : Int32) &&& 31)))) = (0 : Int32)) ⟨fun hc320 => ?_, fun hc320 => ?_⟩)
      · refine wpc_sl (n := 4) (c' := 11) (pc' := 34) (ls' := [some (.ref 0), some (.int a1), some (.int (a1 >>> ((1 : Int32) &&& 31))), some (.int ((0 : Int32) ||| (1 : Int32)))]) (st' := []) (s' := s) rfl ?_
        first | exact hm314 _ (by simp only [if_pos hc320]) | exact wpc_lle (by repeat (first | exact trivial | refine ⟨rfl, ?_⟩)) (hm314 _ (by simp only [if_pos hc320]))
      · first | exact hm314 _ (by simp only [if_neg hc320]) | exact wpc_lle (by repeat (first | exact trivial | refine ⟨rfl, ?_⟩)) (hm314 _ (by simp only [if_neg hc320]))
  · have h303 := h.2 hc301
    refine wpc_sl (n := 3) (c' := 11) (pc' := 55) (ls' := [some (.ref 0), some (.int a1), some (.int (a1 >>> ((1 : Int32) &&& 31))), some (.int (0 : Int32))]) (st' := [.int (a1 >>> ((1 : Int32) &&& 31)), .ref 5]) (s' := s) rfl ?_
    refine wpc_ldaI (a := 4) (N := 8) (v := (gI s 5 (ix (a1 >>> ((1 : Int32) &&& 31))))) rfl rfl (by decide) h303.1 rfl ?_
    have h321 := h303.2
    refine wpc_sl (n := 2) (c' := 11) (pc' := 60) (ls' := [some (.ref 0), some (.int a1), some (.int (a1 >>> ((1 : Int32) &&& 31))), some (.int (0 : Int32))]) (st' := [.int (gI s 0 18), .int (gI s 5 (ix (a1 >>> ((1 : Int32) &&& 31))))]) (s' := s) rfl ?_
    refine wpc_icmp (a := 72) (b := 63) rfl (by decide) rfl rfl (wpc_br (p := (gI s 5 (ix (a1 >>> ((1 : Int32) &&& 31)))) < (gI s 0 18)) ⟨fun hc322 => ?_, fun hc322 => ?_⟩)
    · have h323 := h321.1 hc322
      refine wpc_sl (n := 7) (c' := 11) (pc' := 81) (ls' := [some (.ref 0), some (.int a1), some (.int (a1 >>> ((1 : Int32) &&& 31))), some (.int ((0 : Int32) ||| (2 : Int32)))]) (st' := [.int (a1 >>> ((1 : Int32) &&& 31)), .ref 1]) (s' := s) rfl ?_
      refine wpc_ldaZ (a := 0) (N := 8) (v := (gI s 1 (ix (a1 >>> ((1 : Int32) &&& 31))))) rfl rfl (by decide) h323.1 rfl ?_
      have h325 := h323.2
      refine wpc_if (a := 90) (b := 85) rfl (by decide) rfl rfl (wpc_br (p := (gI s 1 (ix (a1 >>> ((1 : Int32) &&& 31)))) = (0 : Int32)) ⟨fun hc326 => ?_, fun hc326 => ?_⟩)
      · have h327 := h325.1 hc326
        refine wpc_sl (n := 5) (c' := 11) (pc' := 91) (ls' := [some (.ref 0), some (.int a1), some (.int (a1 >>> ((1 : Int32) &&& 31))), some (.int (((0 : Int32) ||| (2 : Int32)) ||| (8 : Int32)))]) (st' := [.int (((0 : Int32) ||| (2 : Int32)) ||| (8 : Int32))]) (s' := s) rfl ?_
        exact wpc_ret rfl rfl (fun q => absurd q (by decide)) rfl ⟨(((0 : Int32) ||| (2 : Int32)) ||| (8 : Int32)), rfl, h327⟩
      · have h328 := h325.2 hc326
        refine wpc_sl (n := 1) (c' := 11) (pc' := 91) (ls' := [some (.ref 0), some (.int a1), some (.int (a1 >>> ((1 : Int32) &&& 31))), some (.int ((0 : Int32) ||| (2 : Int32)))]) (st' := [.int ((0 : Int32) ||| (2 : Int32))]) (s' := s) rfl ?_
        exact wpc_ret rfl rfl (fun q => absurd q (by decide)) rfl ⟨((0 : Int32) ||| (2 : Int32)), rfl, h328⟩
    · have h324 := h321.2 hc322
      refine wpc_sl (n := 3) (c' := 11) (pc' := 68) (ls' := [some (.ref 0), some (.int a1), some (.int (a1 >>> ((1 : Int32) &&& 31))), some (.int (0 : Int32))]) (st' := [.int (a1 >>> ((1 : Int32) &&& 31)), .ref 1]) (s' := s) rfl ?_
      refine wpc_ldaZ (a := 0) (N := 8) (v := (gI s 1 (ix (a1 >>> ((1 : Int32) &&& 31))))) rfl rfl (by decide) h324.1 rfl ?_
      have h329 := h324.2
      have hm331 : ∀ m330, m330 = (if (gI s 1 (ix (a1 >>> ((1 : Int32) &&& 31)))) = (0 : Int32) then ((0 : Int32) ||| (2 : Int32)) else (0 : Int32)) → wpcI PP 4 cm4 11 76 [some (.ref 0), some (.int a1), some (.int (a1 >>> ((1 : Int32) &&& 31))), some (.int m330)] [] s Q := by
        intro m330 em330
        have h332 := h329 m330 em330
        refine wpc_sl (n := 3) (c' := 11) (pc' := 81) (ls' := [some (.ref 0), some (.int a1), some (.int (a1 >>> ((1 : Int32) &&& 31))), some (.int m330)]) (st' := [.int (a1 >>> ((1 : Int32) &&& 31)), .ref 1]) (s' := s) rfl ?_
        refine wpc_ldaZ (a := 0) (N := 8) (v := (gI s 1 (ix (a1 >>> ((1 : Int32) &&& 31))))) rfl rfl (by decide) h332.1 rfl ?_
        have h333 := h332.2
        refine wpc_if (a := 90) (b := 85) rfl (by decide) rfl rfl (wpc_br (p := (gI s 1 (ix (a1 >>> ((1 : Int32) &&& 31)))) = (0 : Int32)) ⟨fun hc334 => ?_, fun hc334 => ?_⟩)
        · have h335 := h333.1 hc334
          refine wpc_sl (n := 5) (c' := 11) (pc' := 91) (ls' := [some (.ref 0), some (.int a1), some (.int (a1 >>> ((1 : Int32) &&& 31))), some (.int (m330 ||| (8 : Int32)))]) (st' := [.int (m330 ||| (8 : Int32))]) (s' := s) rfl ?_
          exact wpc_ret rfl rfl (fun q => absurd q (by decide)) rfl ⟨(m330 ||| (8 : Int32)), rfl, h335⟩
        · have h336 := h333.2 hc334
          refine wpc_sl (n := 1) (c' := 11) (pc' := 91) (ls' := [some (.ref 0), some (.int a1), some (.int (a1 >>> ((1 : Int32) &&& 31))), some (.int m330)]) (st' := [.int m330]) (s' := s) rfl ?_
          exact wpc_ret rfl rfl (fun q => absurd q (by decide)) rfl ⟨m330, rfl, h336⟩
      refine wpc_if (a := 76) (b := 72) rfl (by decide) rfl rfl (wpc_br (p := (gI s 1 (ix (a1 >>> ((1 : Int32) &&& 31)))) = (0 : Int32)) ⟨fun hc337 => ?_, fun hc337 => ?_⟩)
      · refine wpc_sl (n := 4) (c' := 11) (pc' := 76) (ls' := [some (.ref 0), some (.int a1), some (.int (a1 >>> ((1 : Int32) &&& 31))), some (.int ((0 : Int32) ||| (2 : Int32)))]) (st' := []) (s' := s) rfl ?_
        first | exact hm331 _ (by simp only [if_pos hc337]) | exact wpc_lle (by repeat (first | exact trivial | refine ⟨rfl, ?_⟩)) (hm331 _ (by simp only [if_pos hc337]))
      · first | exact hm331 _ (by simp only [if_neg hc337]) | exact wpc_lle (by repeat (first | exact trivial | refine ⟨rfl, ?_⟩)) (hm331 _ (by simp only [if_neg hc337]))
theorem c5_in (a1 : Int32) (s : St) (Q : Int32 → St → Prop) (h : Q (((a1 &&& (3 : Int32)) ||| (4 : Int32)) ||| (8 : Int32)) s) : calI PP 5 11 [.ref 0, .int a1] s Q := by
  refine cal_of (me := cm5) (ls := [some (.ref 0), some (.int a1)]) rfl (Nat.le_of_ble_eq_true rfl) rfl ?_
  refine wpc_sl (n := 7) (c' := 11) (pc' := 8) (ls' := [some (.ref 0), some (.int a1)]) (st' := [.int (((a1 &&& (3 : Int32)) ||| (4 : Int32)) ||| (8 : Int32))]) (s' := s) rfl ?_
  exact wpc_ret rfl rfl (fun q => absurd q (by decide)) rfl ⟨(((a1 &&& (3 : Int32)) ||| (4 : Int32)) ||| (8 : Int32)), rfl, h⟩
theorem c10_in (a1 : Int32) (a2 : Int32) (a3 : Int32) (s : St) (Q : St → Prop) (h : inb 64 a1 ∧ inb 64 a1 ∧ (((a3 &&& (16 : Int32)) = (0 : Int32)) → inb 64 a1 ∧ Q (sI (sI (sI s 7 (ix a1) a3) 8 (ix a1) (1 : Int32)) 9 (ix a1) (0 : Int32))) ∧ (¬ ((a3 &&& (16 : Int32)) = (0 : Int32)) → calI PP 4 11 [.ref 0, .int a2] (sI (sI s 7 (ix a1) a3) 8 (ix a1) (1 : Int32)) (fun v295 s294 => calI PP 5 11 [.ref 0, .int a3] s294 (fun v298 s297 => inb 64 a1 ∧ Q (sI s297 9 (ix a1) (v295 &&& v298)))))) : calV PP 10 11 [.ref 0, .int a1, .int a2, .int a3] s Q := by
  refine cal_of (me := cm10) (ls := [some (.ref 0), some (.int a1), some (.int a2), some (.int a3)]) rfl (Nat.le_of_ble_eq_true rfl) rfl ?_
  refine wpc_sl (n := 4) (c' := 11) (pc' := 6) (ls' := [some (.ref 0), some (.int a1), some (.int a2), some (.int a3)]) (st' := [.int a3, .int a1, .ref 7]) (s' := s) rfl ?_
  refine wpc_staI (a := 6) (N := 64) (s' := (sI s 7 (ix a1) a3)) rfl rfl (by decide) h.1 rfl ?_
  have h288 := h.2
  refine wpc_sl (n := 4) (c' := 11) (pc' := 13) (ls' := [some (.ref 0), some (.int a1), some (.int a2), some (.int a3)]) (st' := [.int (1 : Int32), .int a1, .ref 8]) (s' := (sI s 7 (ix a1) a3)) rfl ?_
  refine wpc_staZ (a := 7) (N := 64) (s' := (sI (sI s 7 (ix a1) a3) 8 (ix a1) (1 : Int32))) rfl rfl (by decide) h288.1 rfl ?_
  have h289 := h288.2
  refine wpc_sl (n := 3) (c' := 11) (pc' := 18) (ls' := [some (.ref 0), some (.int a1), some (.int a2), some (.int a3)]) (st' := [.int (a3 &&& (16 : Int32))]) (s' := (sI (sI s 7 (ix a1) a3) 8 (ix a1) (1 : Int32))) rfl ?_
  refine wpc_if (a := 41) (b := 21) rfl (by decide) rfl rfl (wpc_br (p := (a3 &&& (16 : Int32)) = (0 : Int32)) ⟨fun hc290 => ?_, fun hc290 => ?_⟩)
  · have h291 := h289.1 hc290
    refine wpc_sl (n := 4) (c' := 11) (pc' := 47) (ls' := [some (.ref 0), some (.int a1), some (.int a2), some (.int a3)]) (st' := [.int (0 : Int32), .int a1, .ref 9]) (s' := (sI (sI s 7 (ix a1) a3) 8 (ix a1) (1 : Int32))) rfl ?_
    refine wpc_staI (a := 8) (N := 64) (s' := (sI (sI (sI s 7 (ix a1) a3) 8 (ix a1) (1 : Int32)) 9 (ix a1) (0 : Int32))) rfl rfl (by decide) h291.1 rfl ?_
    have h293 := h291.2
    exact wpc_ret rfl rfl (fun q => absurd q (by decide)) rfl ⟨rfl, h293⟩
  · have h292 := h289.2 hc290
    refine wpc_sl (n := 5) (c' := 11) (pc' := 28) (ls' := [some (.ref 0), some (.int a1), some (.int a2), some (.int a3)]) (st' := [.int a2, .ref 0, .int a1, .ref 9]) (s' := (sI (sI s 7 (ix a1) a3) 8 (ix a1) (1 : Int32))) rfl ?_
    refine wpc_callI (m' := 4) (me' := cm4) (as := [.int a2]) (r := [.int a1, .ref 9]) rfl rfl rfl rfl rfl ⟨by decide, (by first | decide | exact Nat.le_of_ble_eq_true rfl), (by first | decide | exact Nat.le_of_ble_eq_true rfl), rfl⟩ (calI.mono h292 fun v295 s294 h296 => ?_)
    refine wpc_sl (n := 2) (c' := 11) (pc' := 33) (ls' := [some (.ref 0), some (.int a1), some (.int a2), some (.int a3)]) (st' := [.int a3, .ref 0, .int v295, .int a1, .ref 9]) (s' := s294) rfl ?_
    refine wpc_callI (m' := 5) (me' := cm5) (as := [.int a3]) (r := [.int v295, .int a1, .ref 9]) rfl rfl rfl rfl rfl ⟨by decide, (by first | decide | exact Nat.le_of_ble_eq_true rfl), (by first | decide | exact Nat.le_of_ble_eq_true rfl), rfl⟩ (calI.mono h296 fun v298 s297 h299 => ?_)
    refine wpc_sl (n := 1) (c' := 11) (pc' := 37) (ls' := [some (.ref 0), some (.int a1), some (.int a2), some (.int a3)]) (st' := [.int (v295 &&& v298), .int a1, .ref 9]) (s' := s297) rfl ?_
    refine wpc_staI (a := 8) (N := 64) (s' := (sI s297 9 (ix a1) (v295 &&& v298))) rfl rfl (by decide) h299.1 rfl ?_
    have h300 := h299.2
    refine wpc_sl (n := 1) (c' := 11) (pc' := 48) (ls' := [some (.ref 0), some (.int a1), some (.int a2), some (.int a3)]) (st' := []) (s' := (sI s297 9 (ix a1) (v295 &&& v298))) rfl ?_
    exact wpc_ret rfl rfl (fun q => absurd q (by decide)) rfl ⟨rfl, h300⟩
theorem c19_in (a1 : Int32) (a2 : Int32) (a3 : Int32) (s : St) (Q : Int32 → St → Prop) (h : calI PP 6 11 [.ref 0, .int a1] s (fun v240 s239 => ((v240 = (0 : Int32)) → Q (-6 : Int32) s239) ∧ (¬ (v240 = (0 : Int32)) → calI PP 7 11 [.ref 0, .int a3] s239 (fun v246 s245 => ((v246 = (0 : Int32)) → Q (-6 : Int32) s245) ∧ (¬ (v246 = (0 : Int32)) → calI PP 3 11 [.ref 0, .int a2] s245 (fun v252 s251 => ((v252 = (0 : Int32)) → Q (-1 : Int32) s251) ∧ (¬ (v252 = (0 : Int32)) → calI PP 8 11 [.ref 0, .int a1, .int a2] s251 (fun v258 s257 => inb 64 v258 ∧ (((gI s257 6 (ix v258)) = (0 : Int32)) → inb 64 v258 ∧ calV PP 10 11 [.ref 0, .int v258, .int a2, .int a3] (sI s257 6 (ix v258) (1 : Int32)) (fun s265 => Q (0 : Int32) s265)) ∧ (¬ ((gI s257 6 (ix v258)) = (0 : Int32)) → Q (-5 : Int32) s257))))))))) : calI PP 19 11 [.ref 0, .int a1, .int a2, .int a3] s Q := by
  refine cal_of (me := cm19) (ls := [some (.ref 0), some (.int a1), some (.int a2), some (.int a3), none]) rfl (Nat.le_of_ble_eq_true rfl) rfl ?_
  refine wpc_sl (n := 2) (c' := 11) (pc' := 2) (ls' := [some (.ref 0), some (.int a1), some (.int a2), some (.int a3), none]) (st' := [.int a1, .ref 0]) (s' := s) rfl ?_
  refine wpc_callI (m' := 6) (me' := cm6) (as := [.int a1]) (r := []) rfl rfl rfl rfl rfl ⟨by decide, (by first | decide | exact Nat.le_of_ble_eq_true rfl), (by first | decide | exact Nat.le_of_ble_eq_true rfl), rfl⟩ (calI.mono h fun v240 s239 h241 => ?_)
  refine wpc_if (a := 16) (b := 8) rfl (by decide) rfl rfl (wpc_br (p := v240 = (0 : Int32)) ⟨fun hc242 => ?_, fun hc242 => ?_⟩)
  · have h243 := h241.1 hc242
    refine wpc_sl (n := 1) (c' := 11) (pc' := 18) (ls' := [some (.ref 0), some (.int a1), some (.int a2), some (.int a3), none]) (st' := [.int (-6 : Int32)]) (s' := s239) rfl ?_
    exact wpc_ret rfl rfl (fun q => absurd q (by decide)) rfl ⟨(-6 : Int32), rfl, h243⟩
  · have h244 := h241.2 hc242
    refine wpc_sl (n := 2) (c' := 11) (pc' := 10) (ls' := [some (.ref 0), some (.int a1), some (.int a2), some (.int a3), none]) (st' := [.int a3, .ref 0]) (s' := s239) rfl ?_
    refine wpc_callI (m' := 7) (me' := cm7) (as := [.int a3]) (r := []) rfl rfl rfl rfl rfl ⟨by decide, (by first | decide | exact Nat.le_of_ble_eq_true rfl), (by first | decide | exact Nat.le_of_ble_eq_true rfl), rfl⟩ (calI.mono h244 fun v246 s245 h247 => ?_)
    refine wpc_if (a := 19) (b := 16) rfl (by decide) rfl rfl (wpc_br (p := v246 = (0 : Int32)) ⟨fun hc248 => ?_, fun hc248 => ?_⟩)
    · have h249 := h247.1 hc248
      refine wpc_sl (n := 1) (c' := 11) (pc' := 18) (ls' := [some (.ref 0), some (.int a1), some (.int a2), some (.int a3), none]) (st' := [.int (-6 : Int32)]) (s' := s245) rfl ?_
      exact wpc_ret rfl rfl (fun q => absurd q (by decide)) rfl ⟨(-6 : Int32), rfl, h249⟩
    · have h250 := h247.2 hc248
      refine wpc_sl (n := 2) (c' := 11) (pc' := 21) (ls' := [some (.ref 0), some (.int a1), some (.int a2), some (.int a3), none]) (st' := [.int a2, .ref 0]) (s' := s245) rfl ?_
      refine wpc_callI (m' := 3) (me' := cm3) (as := [.int a2]) (r := []) rfl rfl rfl rfl rfl ⟨by decide, (by first | decide | exact Nat.le_of_ble_eq_true rfl), (by first | decide | exact Nat.le_of_ble_eq_true rfl), rfl⟩ (calI.mono h250 fun v252 s251 h253 => ?_)
      refine wpc_if (a := 29) (b := 27) rfl (by decide) rfl rfl (wpc_br (p := v252 = (0 : Int32)) ⟨fun hc254 => ?_, fun hc254 => ?_⟩)
      · have h255 := h253.1 hc254
        refine wpc_sl (n := 1) (c' := 11) (pc' := 28) (ls' := [some (.ref 0), some (.int a1), some (.int a2), some (.int a3), none]) (st' := [.int (-1 : Int32)]) (s' := s251) rfl ?_
        exact wpc_ret rfl rfl (fun q => absurd q (by decide)) rfl ⟨(-1 : Int32), rfl, h255⟩
      · have h256 := h253.2 hc254
        refine wpc_sl (n := 3) (c' := 11) (pc' := 32) (ls' := [some (.ref 0), some (.int a1), some (.int a2), some (.int a3), none]) (st' := [.int a2, .int a1, .ref 0]) (s' := s251) rfl ?_
        refine wpc_callI (m' := 8) (me' := cm8) (as := [.int a1, .int a2]) (r := []) rfl rfl rfl rfl rfl ⟨by decide, (by first | decide | exact Nat.le_of_ble_eq_true rfl), (by first | decide | exact Nat.le_of_ble_eq_true rfl), rfl⟩ (calI.mono h256 fun v258 s257 h259 => ?_)
        refine wpc_sl (n := 4) (c' := 11) (pc' := 43) (ls' := [some (.ref 0), some (.int a1), some (.int a2), some (.int a3), some (.int v258)]) (st' := [.int v258, .ref 6]) (s' := s257) rfl ?_
        refine wpc_ldaZ (a := 5) (N := 64) (v := (gI s257 6 (ix v258))) rfl rfl (by decide) h259.1 rfl ?_
        have h260 := h259.2
        refine wpc_if (a := 50) (b := 47) rfl (by decide) rfl rfl (wpc_br (p := (gI s257 6 (ix v258)) = (0 : Int32)) ⟨fun hc261 => ?_, fun hc261 => ?_⟩)
        · have h262 := h260.1 hc261
          refine wpc_sl (n := 4) (c' := 11) (pc' := 57) (ls' := [some (.ref 0), some (.int a1), some (.int a2), some (.int a3), some (.int v258)]) (st' := [.int (1 : Int32), .int v258, .ref 6]) (s' := s257) rfl ?_
          refine wpc_staZ (a := 5) (N := 64) (s' := (sI s257 6 (ix v258) (1 : Int32))) rfl rfl (by decide) h262.1 rfl ?_
          have h264 := h262.2
          refine wpc_sl (n := 4) (c' := 11) (pc' := 63) (ls' := [some (.ref 0), some (.int a1), some (.int a2), some (.int a3), some (.int v258)]) (st' := [.int a3, .int a2, .int v258, .ref 0]) (s' := (sI s257 6 (ix v258) (1 : Int32))) rfl ?_
          refine wpc_callV (m' := 10) (me' := cm10) (as := [.int v258, .int a2, .int a3]) (r := []) rfl rfl rfl rfl rfl ⟨by decide, (by first | decide | exact Nat.le_of_ble_eq_true rfl), (by first | decide | exact Nat.le_of_ble_eq_true rfl), rfl⟩ (calV.mono h264 fun s265 h267 => ?_)
          refine wpc_sl (n := 1) (c' := 11) (pc' := 67) (ls' := [some (.ref 0), some (.int a1), some (.int a2), some (.int a3), some (.int v258)]) (st' := [.int (0 : Int32)]) (s' := s265) rfl ?_
          exact wpc_ret rfl rfl (fun q => absurd q (by decide)) rfl ⟨(0 : Int32), rfl, h267⟩
        · have h263 := h260.2 hc261
          refine wpc_sl (n := 1) (c' := 11) (pc' := 49) (ls' := [some (.ref 0), some (.int a1), some (.int a2), some (.int a3), some (.int v258)]) (st' := [.int (-5 : Int32)]) (s' := s257) rfl ?_
          exact wpc_ret rfl rfl (fun q => absurd q (by decide)) rfl ⟨(-5 : Int32), rfl, h263⟩
theorem c13_in (a1 : Int32) (a2 : Int32) (s : St) (Q : St → Prop) (h : calI PP 3 11 [.ref 0, .int a1] s (fun v373 s372 => ((v373 = (0 : Int32)) → Q s372) ∧ (¬ (v373 = (0 : Int32)) → calI PP 4 11 [.ref 0, .int a1] s372 (fun v379 s378 => wpcV PP 13 cm13 11 18 [some (.ref 0), some (.int a1), some (.int a2), some (.int v379), some (.int (0 : Int32)), none, none] [] s378 Q)))) : calV PP 13 11 [.ref 0, .int a1, .int a2] s Q := by
  refine cal_of (me := cm13) (ls := [some (.ref 0), some (.int a1), some (.int a2), none, none, none, none]) rfl (Nat.le_of_ble_eq_true rfl) rfl ?_
  refine wpc_sl (n := 2) (c' := 11) (pc' := 2) (ls' := [some (.ref 0), some (.int a1), some (.int a2), none, none, none, none]) (st' := [.int a1, .ref 0]) (s' := s) rfl ?_
  refine wpc_callI (m' := 3) (me' := cm3) (as := [.int a1]) (r := []) rfl rfl rfl rfl rfl ⟨by decide, (by first | decide | exact Nat.le_of_ble_eq_true rfl), (by first | decide | exact Nat.le_of_ble_eq_true rfl), rfl⟩ (calI.mono h fun v373 s372 h374 => ?_)
  refine wpc_if (a := 9) (b := 8) rfl (by decide) rfl rfl (wpc_br (p := v373 = (0 : Int32)) ⟨fun hc375 => ?_, fun hc375 => ?_⟩)
  · have h376 := h374.1 hc375
    exact wpc_ret rfl rfl (fun q => absurd q (by decide)) rfl ⟨rfl, h376⟩
  · have h377 := h374.2 hc375
    refine wpc_sl (n := 2) (c' := 11) (pc' := 11) (ls' := [some (.ref 0), some (.int a1), some (.int a2), none, none, none, none]) (st' := [.int a1, .ref 0]) (s' := s372) rfl ?_
    refine wpc_callI (m' := 4) (me' := cm4) (as := [.int a1]) (r := []) rfl rfl rfl rfl rfl ⟨by decide, (by first | decide | exact Nat.le_of_ble_eq_true rfl), (by first | decide | exact Nat.le_of_ble_eq_true rfl), rfl⟩ (calI.mono h377 fun v379 s378 h380 => ?_)
    refine wpc_sl (n := 3) (c' := 11) (pc' := 18) (ls' := [some (.ref 0), some (.int a1), some (.int a2), some (.int v379), some (.int (0 : Int32)), none, none]) (st' := []) (s' := s378) rfl ?_
    exact h380
theorem c13_18 (x1 : Int32) (x2 : Int32) (x3 : Int32) (x4 : Int32) (s : St) (Q : St → Prop) (h : ((x4 < (gI s 0 19)) → calI PP 8 11 [.ref 0, .int x4, .int x1] s (fun v385 s384 => inb 64 v385 ∧ (((gI s384 6 (ix v385)) = (0 : Int32)) → wpcV PP 13 cm13 11 107 [some (.ref 0), some (.int x1), some (.int x2), some (.int x3), some (.int x4), none, none] [] s384 Q) ∧ (¬ ((gI s384 6 (ix v385)) = (0 : Int32)) → inb 64 v385 ∧ (((gI s384 8 (ix v385)) = (0 : Int32)) → wpcV PP 13 cm13 11 107 [some (.ref 0), some (.int x1), some (.int x2), some (.int x3), some (.int x4), none, none] [] s384 Q) ∧ (¬ ((gI s384 8 (ix v385)) = (0 : Int32)) → inb 64 v385 ∧ ((((gI s384 7 (ix v385)) &&& (16 : Int32)) = (0 : Int32)) → wpcV PP 13 cm13 11 107 [some (.ref 0), some (.int x1), some (.int x2), some (.int x3), some (.int x4), none, none] [] s384 Q) ∧ (¬ (((gI s384 7 (ix v385)) &&& (16 : Int32)) = (0 : Int32)) → inb 64 v385 ∧ calI PP 5 11 [.ref 0, .int (gI s384 7 (ix v385))] s384 (fun v401 s400 => inb 64 v385 ∧ inb 64 v385 ∧ wpcV PP 13 cm13 11 107 [some (.ref 0), some (.int x1), some (.int x2), some (.int x3), some (.int x4), none, none] [] (sI s400 9 (ix v385) (((gI s400 9 (ix v385)) &&& x3) ||| ((x3 &&& (x2 ^^^ (-1 : Int32))) &&& v401))) Q)))))) ∧ (¬ (x4 < (gI s 0 19)) → Q s)) : wpcV PP 13 cm13 11 18 [some (.ref 0), some (.int x1), some (.int x2), some (.int x3), some (.int x4), none, none] [] s Q := by
  refine wpc_sl (n := 3) (c' := 11) (pc' := 24) (ls' := [some (.ref 0), some (.int x1), some (.int x2), some (.int x3), some (.int x4), none, none]) (st' := [.int (gI s 0 19), .int x4]) (s' := s) rfl ?_
  refine wpc_icmp (a := 113) (b := 27) rfl (by decide) rfl rfl (wpc_br (p := x4 < (gI s 0 19)) ⟨fun hc381 => ?_, fun hc381 => ?_⟩)
  · have h382 := h.1 hc381
    refine wpc_sl (n := 3) (c' := 11) (pc' := 31) (ls' := [some (.ref 0), some (.int x1), some (.int x2), some (.int x3), some (.int x4), none, none]) (st' := [.int x1, .int x4, .ref 0]) (s' := s) rfl ?_
    refine wpc_callI (m' := 8) (me' := cm8) (as := [.int x4, .int x1]) (r := []) rfl rfl rfl rfl rfl ⟨by decide, (by first | decide | exact Nat.le_of_ble_eq_true rfl), (by first | decide | exact Nat.le_of_ble_eq_true rfl), rfl⟩ (calI.mono h382 fun v385 s384 h386 => ?_)
    refine wpc_sl (n := 4) (c' := 11) (pc' := 42) (ls' := [some (.ref 0), some (.int x1), some (.int x2), some (.int x3), some (.int x4), some (.int v385), none]) (st' := [.int v385, .ref 6]) (s' := s384) rfl ?_
    refine wpc_ldaZ (a := 5) (N := 64) (v := (gI s384 6 (ix v385))) rfl rfl (by decide) h386.1 rfl ?_
    have h387 := h386.2
    refine wpc_if (a := 107) (b := 46) rfl (by decide) rfl rfl (wpc_br (p := (gI s384 6 (ix v385)) = (0 : Int32)) ⟨fun hc388 => ?_, fun hc388 => ?_⟩)
    · have h389 := h387.1 hc388
      exact wpc_lle (ls := [some (.ref 0), some (.int x1), some (.int x2), some (.int x3), some (.int x4), none, none]) ⟨rfl, rfl, rfl, rfl, rfl, trivial⟩ h389
    · have h390 := h387.2 hc388
      refine wpc_sl (n := 3) (c' := 11) (pc' := 52) (ls' := [some (.ref 0), some (.int x1), some (.int x2), some (.int x3), some (.int x4), some (.int v385), none]) (st' := [.int v385, .ref 8]) (s' := s384) rfl ?_
      refine wpc_ldaZ (a := 7) (N := 64) (v := (gI s384 8 (ix v385))) rfl rfl (by decide) h390.1 rfl ?_
      have h391 := h390.2
      refine wpc_if (a := 107) (b := 56) rfl (by decide) rfl rfl (wpc_br (p := (gI s384 8 (ix v385)) = (0 : Int32)) ⟨fun hc392 => ?_, fun hc392 => ?_⟩)
      · have h393 := h391.1 hc392
        exact wpc_lle (ls := [some (.ref 0), some (.int x1), some (.int x2), some (.int x3), some (.int x4), none, none]) ⟨rfl, rfl, rfl, rfl, rfl, trivial⟩ h393
      · have h394 := h391.2 hc392
        refine wpc_sl (n := 3) (c' := 11) (pc' := 62) (ls' := [some (.ref 0), some (.int x1), some (.int x2), some (.int x3), some (.int x4), some (.int v385), none]) (st' := [.int v385, .ref 7]) (s' := s384) rfl ?_
        refine wpc_ldaI (a := 6) (N := 64) (v := (gI s384 7 (ix v385))) rfl rfl (by decide) h394.1 rfl ?_
        have h395 := h394.2
        refine wpc_sl (n := 2) (c' := 11) (pc' := 66) (ls' := [some (.ref 0), some (.int x1), some (.int x2), some (.int x3), some (.int x4), some (.int v385), none]) (st' := [.int ((gI s384 7 (ix v385)) &&& (16 : Int32))]) (s' := s384) rfl ?_
        refine wpc_if (a := 107) (b := 69) rfl (by decide) rfl rfl (wpc_br (p := ((gI s384 7 (ix v385)) &&& (16 : Int32)) = (0 : Int32)) ⟨fun hc396 => ?_, fun hc396 => ?_⟩)
        · have h397 := h395.1 hc396
          exact wpc_lle (ls := [some (.ref 0), some (.int x1), some (.int x2), some (.int x3), some (.int x4), none, none]) ⟨rfl, rfl, rfl, rfl, rfl, trivial⟩ h397
        · have h398 := h395.2 hc396
          refine wpc_sl (n := 4) (c' := 11) (pc' := 76) (ls' := [some (.ref 0), some (.int x1), some (.int x2), some (.int x3), some (.int x4), some (.int v385), none]) (st' := [.int v385, .ref 7, .ref 0]) (s' := s384) rfl ?_
          refine wpc_ldaI (a := 6) (N := 64) (v := (gI s384 7 (ix v385))) rfl rfl (by decide) h398.1 rfl ?_
          have h399 := h398.2
          refine wpc_callI (m' := 5) (me' := cm5) (as := [.int (gI s384 7 (ix v385))]) (r := []) rfl rfl rfl rfl rfl ⟨by decide, (by first | decide | exact Nat.le_of_ble_eq_true rfl), (by first | decide | exact Nat.le_of_ble_eq_true rfl), rfl⟩ (calI.mono h399 fun v401 s400 h402 => ?_)
          refine wpc_sl (n := 7) (c' := 11) (pc' := 94) (ls' := [some (.ref 0), some (.int x1), some (.int x2), some (.int x3), some (.int x4), some (.int v385), some (.int v401)]) (st' := [.int v385, .ref 9, .int v385, .ref 9]) (s' := s400) rfl ?_
          refine wpc_ldaI (a := 8) (N := 64) (v := (gI s400 9 (ix v385))) rfl rfl (by decide) h402.1 rfl ?_
          have h403 := h402.2
          refine wpc_sl (n := 10) (c' := 11) (pc' := 106) (ls' := [some (.ref 0), some (.int x1), some (.int x2), some (.int x3), some (.int x4), some (.int v385), some (.int v401)]) (st' := [.int (((gI s400 9 (ix v385)) &&& x3) ||| ((x3 &&& (x2 ^^^ (-1 : Int32))) &&& v401)), .int v385, .ref 9]) (s' := s400) rfl ?_
          refine wpc_staI (a := 8) (N := 64) (s' := (sI s400 9 (ix v385) (((gI s400 9 (ix v385)) &&& x3) ||| ((x3 &&& (x2 ^^^ (-1 : Int32))) &&& v401)))) rfl rfl (by decide) h403.1 rfl ?_
          have h404 := h403.2
          exact wpc_lle (ls := [some (.ref 0), some (.int x1), some (.int x2), some (.int x3), some (.int x4), none, none]) ⟨rfl, rfl, rfl, rfl, rfl, trivial⟩ h404
  · have h383 := h.2 hc381
    exact wpc_ret rfl rfl (fun q => absurd q (by decide)) rfl ⟨rfl, h383⟩
theorem c13_107 (x1 : Int32) (x2 : Int32) (x3 : Int32) (x4 : Int32) (s : St) (Q : St → Prop) (h : wpcV PP 13 cm13 11 18 [some (.ref 0), some (.int x1), some (.int x2), some (.int x3), some (.int (x4 + (1 : Int32))), none, none] [] s Q) : wpcV PP 13 cm13 11 107 [some (.ref 0), some (.int x1), some (.int x2), some (.int x3), some (.int x4), none, none] [] s Q := by
  refine wpc_sl (n := 2) (c' := 11) (pc' := 18) (ls' := [some (.ref 0), some (.int x1), some (.int x2), some (.int x3), some (.int (x4 + (1 : Int32))), none, none]) (st' := []) (s' := s) rfl ?_
  exact h
theorem c16_in (a1 : Int32) (a2 : Int32) (s : St) (Q : Int32 → St → Prop) (h : calI PP 3 11 [.ref 0, .int a1] s (fun v339 s338 => ((v339 = (0 : Int32)) → Q (-1 : Int32) s338) ∧ (¬ (v339 = (0 : Int32)) → (((a1 &&& (1 : Int32)) = (0 : Int32)) → Q (-1 : Int32) s338) ∧ (¬ ((a1 &&& (1 : Int32)) = (0 : Int32)) → inb 8 (a1 >>> ((1 : Int32) &&& 31)) ∧ (((gI s338 1 (ix (a1 >>> ((1 : Int32) &&& 31)))) = (0 : Int32)) → Q (-4 : Int32) s338) ∧ (¬ ((gI s338 1 (ix (a1 >>> ((1 : Int32) &&& 31)))) = (0 : Int32)) → inb 8 (a1 >>> ((1 : Int32) &&& 31)) ∧ (((gI s338 5 (ix (a1 >>> ((1 : Int32) &&& 31)))) < (gI s338 0 18)) → calI PP 4 11 [.ref 0, .int ((2 : Int32) * (a1 >>> ((1 : Int32) &&& 31)))] s338 (fun v356 s355 => calI PP 4 11 [.ref 0, .int (((2 : Int32) * (a1 >>> ((1 : Int32) &&& 31))) + (1 : Int32))] s355 (fun v359 s358 => inb 8 (a1 >>> ((1 : Int32) &&& 31)) ∧ inb 8 (a1 >>> ((1 : Int32) &&& 31)) ∧ inb 128 (((a1 >>> ((1 : Int32) &&& 31)) * (16 : Int32)) + (((gI s358 4 (ix (a1 >>> ((1 : Int32) &&& 31)))) + (gI s358 5 (ix (a1 >>> ((1 : Int32) &&& 31))))) &&& (15 : Int32))) ∧ inb 8 (a1 >>> ((1 : Int32) &&& 31)) ∧ inb 8 (a1 >>> ((1 : Int32) &&& 31)) ∧ calV PP 13 11 [.ref 0, .int ((2 : Int32) * (a1 >>> ((1 : Int32) &&& 31))), .int v356] (sI (sI s358 3 (ix (((a1 >>> ((1 : Int32) &&& 31)) * (16 : Int32)) + (((gI s358 4 (ix (a1 >>> ((1 : Int32) &&& 31)))) + (gI s358 5 (ix (a1 >>> ((1 : Int32) &&& 31))))) &&& (15 : Int32)))) (a2 &&& (255 : Int32))) 5 (ix (a1 >>> ((1 : Int32) &&& 31))) ((gI s358 5 (ix (a1 >>> ((1 : Int32) &&& 31)))) + (1 : Int32))) (fun s366 => calV PP 13 11 [.ref 0, .int (((2 : Int32) * (a1 >>> ((1 : Int32) &&& 31))) + (1 : Int32)), .int v359] s366 (fun s369 => Q (0 : Int32) s369))))) ∧ (¬ ((gI s338 5 (ix (a1 >>> ((1 : Int32) &&& 31)))) < (gI s338 0 18)) → Q (-2 : Int32) s338)))))) : calI PP 16 11 [.ref 0, .int a1, .int a2] s Q := by
  refine cal_of (me := cm16) (ls := [some (.ref 0), some (.int a1), some (.int a2), none, none, none, none]) rfl (Nat.le_of_ble_eq_true rfl) rfl ?_
  refine wpc_sl (n := 2) (c' := 11) (pc' := 2) (ls' := [some (.ref 0), some (.int a1), some (.int a2), none, none, none, none]) (st' := [.int a1, .ref 0]) (s' := s) rfl ?_
  refine wpc_callI (m' := 3) (me' := cm3) (as := [.int a1]) (r := []) rfl rfl rfl rfl rfl ⟨by decide, (by first | decide | exact Nat.le_of_ble_eq_true rfl), (by first | decide | exact Nat.le_of_ble_eq_true rfl), rfl⟩ (calI.mono h fun v339 s338 h340 => ?_)
  refine wpc_if (a := 14) (b := 8) rfl (by decide) rfl rfl (wpc_br (p := v339 = (0 : Int32)) ⟨fun hc341 => ?_, fun hc341 => ?_⟩)
  · have h342 := h340.1 hc341
    refine wpc_sl (n := 1) (c' := 11) (pc' := 15) (ls' := [some (.ref 0), some (.int a1), some (.int a2), none, none, none, none]) (st' := [.int (-1 : Int32)]) (s' := s338) rfl ?_
    exact wpc_ret rfl rfl (fun q => absurd q (by decide)) rfl ⟨(-1 : Int32), rfl, h342⟩
  · have h343 := h340.2 hc341
    refine wpc_sl (n := 3) (c' := 11) (pc' := 11) (ls' := [some (.ref 0), some (.int a1), some (.int a2), none, none, none, none]) (st' := [.int (a1 &&& (1 : Int32))]) (s' := s338) rfl ?_
    refine wpc_if (a := 16) (b := 14) rfl (by decide) rfl rfl (wpc_br (p := (a1 &&& (1 : Int32)) = (0 : Int32)) ⟨fun hc344 => ?_, fun hc344 => ?_⟩)
    · have h345 := h343.1 hc344
      refine wpc_sl (n := 1) (c' := 11) (pc' := 15) (ls' := [some (.ref 0), some (.int a1), some (.int a2), none, none, none, none]) (st' := [.int (-1 : Int32)]) (s' := s338) rfl ?_
      exact wpc_ret rfl rfl (fun q => absurd q (by decide)) rfl ⟨(-1 : Int32), rfl, h345⟩
    · have h346 := h343.2 hc344
      refine wpc_sl (n := 7) (c' := 11) (pc' := 25) (ls' := [some (.ref 0), some (.int a1), some (.int a2), some (.int (a1 >>> ((1 : Int32) &&& 31))), none, none, none]) (st' := [.int (a1 >>> ((1 : Int32) &&& 31)), .ref 1]) (s' := s338) rfl ?_
      refine wpc_ldaZ (a := 0) (N := 8) (v := (gI s338 1 (ix (a1 >>> ((1 : Int32) &&& 31))))) rfl rfl (by decide) h346.1 rfl ?_
      have h347 := h346.2
      refine wpc_if (a := 32) (b := 29) rfl (by decide) rfl rfl (wpc_br (p := (gI s338 1 (ix (a1 >>> ((1 : Int32) &&& 31)))) = (0 : Int32)) ⟨fun hc348 => ?_, fun hc348 => ?_⟩)
      · have h349 := h347.1 hc348
        refine wpc_sl (n := 1) (c' := 11) (pc' := 31) (ls' := [some (.ref 0), some (.int a1), some (.int a2), some (.int (a1 >>> ((1 : Int32) &&& 31))), none, none, none]) (st' := [.int (-4 : Int32)]) (s' := s338) rfl ?_
        exact wpc_ret rfl rfl (fun q => absurd q (by decide)) rfl ⟨(-4 : Int32), rfl, h349⟩
      · have h350 := h347.2 hc348
        refine wpc_sl (n := 3) (c' := 11) (pc' := 37) (ls' := [some (.ref 0), some (.int a1), some (.int a2), some (.int (a1 >>> ((1 : Int32) &&& 31))), none, none, none]) (st' := [.int (a1 >>> ((1 : Int32) &&& 31)), .ref 5]) (s' := s338) rfl ?_
        refine wpc_ldaI (a := 4) (N := 8) (v := (gI s338 5 (ix (a1 >>> ((1 : Int32) &&& 31))))) rfl rfl (by decide) h350.1 rfl ?_
        have h351 := h350.2
        refine wpc_sl (n := 2) (c' := 11) (pc' := 42) (ls' := [some (.ref 0), some (.int a1), some (.int a2), some (.int (a1 >>> ((1 : Int32) &&& 31))), none, none, none]) (st' := [.int (gI s338 0 18), .int (gI s338 5 (ix (a1 >>> ((1 : Int32) &&& 31))))]) (s' := s338) rfl ?_
        refine wpc_icmp (a := 48) (b := 45) rfl (by decide) rfl rfl (wpc_br (p := (gI s338 5 (ix (a1 >>> ((1 : Int32) &&& 31)))) < (gI s338 0 18)) ⟨fun hc352 => ?_, fun hc352 => ?_⟩)
        · have h353 := h351.1 hc352
          refine wpc_sl (n := 4) (c' := 11) (pc' := 52) (ls' := [some (.ref 0), some (.int a1), some (.int a2), some (.int (a1 >>> ((1 : Int32) &&& 31))), none, none, none]) (st' := [.int ((2 : Int32) * (a1 >>> ((1 : Int32) &&& 31))), .ref 0]) (s' := s338) rfl ?_
          refine wpc_callI (m' := 4) (me' := cm4) (as := [.int ((2 : Int32) * (a1 >>> ((1 : Int32) &&& 31)))]) (r := []) rfl rfl rfl rfl rfl ⟨by decide, (by first | decide | exact Nat.le_of_ble_eq_true rfl), (by first | decide | exact Nat.le_of_ble_eq_true rfl), rfl⟩ (calI.mono h353 fun v356 s355 h357 => ?_)
          refine wpc_sl (n := 7) (c' := 11) (pc' := 63) (ls' := [some (.ref 0), some (.int a1), some (.int a2), some (.int (a1 >>> ((1 : Int32) &&& 31))), some (.int v356), none, none]) (st' := [.int (((2 : Int32) * (a1 >>> ((1 : Int32) &&& 31))) + (1 : Int32)), .ref 0]) (s' := s355) rfl ?_
          refine wpc_callI (m' := 4) (me' := cm4) (as := [.int (((2 : Int32) * (a1 >>> ((1 : Int32) &&& 31))) + (1 : Int32))]) (r := []) rfl rfl rfl rfl rfl ⟨by decide, (by first | decide | exact Nat.le_of_ble_eq_true rfl), (by first | decide | exact Nat.le_of_ble_eq_true rfl), rfl⟩ (calI.mono h357 fun v359 s358 h360 => ?_)
          refine wpc_sl (n := 4) (c' := 11) (pc' := 73) (ls' := [some (.ref 0), some (.int a1), some (.int a2), some (.int (a1 >>> ((1 : Int32) &&& 31))), some (.int v356), some (.int v359), none]) (st' := [.int (a1 >>> ((1 : Int32) &&& 31)), .ref 4]) (s' := s358) rfl ?_
          refine wpc_ldaI (a := 3) (N := 8) (v := (gI s358 4 (ix (a1 >>> ((1 : Int32) &&& 31))))) rfl rfl (by decide) h360.1 rfl ?_
          have h361 := h360.2
          refine wpc_sl (n := 3) (c' := 11) (pc' := 79) (ls' := [some (.ref 0), some (.int a1), some (.int a2), some (.int (a1 >>> ((1 : Int32) &&& 31))), some (.int v356), some (.int v359), none]) (st' := [.int (a1 >>> ((1 : Int32) &&& 31)), .ref 5, .int (gI s358 4 (ix (a1 >>> ((1 : Int32) &&& 31))))]) (s' := s358) rfl ?_
          refine wpc_ldaI (a := 4) (N := 8) (v := (gI s358 5 (ix (a1 >>> ((1 : Int32) &&& 31))))) rfl rfl (by decide) h361.1 rfl ?_
          have h362 := h361.2
          refine wpc_sl (n := 14) (c' := 11) (pc' := 102) (ls' := [some (.ref 0), some (.int a1), some (.int a2), some (.int (a1 >>> ((1 : Int32) &&& 31))), some (.int v356), some (.int v359), some (.int (((gI s358 4 (ix (a1 >>> ((1 : Int32) &&& 31)))) + (gI s358 5 (ix (a1 >>> ((1 : Int32) &&& 31))))) &&& (15 : Int32)))]) (st' := [.int (a2 &&& (255 : Int32)), .int (((a1 >>> ((1 : Int32) &&& 31)) * (16 : Int32)) + (((gI s358 4 (ix (a1 >>> ((1 : Int32) &&& 31)))) + (gI s358 5 (ix (a1 >>> ((1 : Int32) &&& 31))))) &&& (15 : Int32))), .ref 3]) (s' := s358) rfl ?_
          refine wpc_staI (a := 2) (N := 128) (s' := (sI s358 3 (ix (((a1 >>> ((1 : Int32) &&& 31)) * (16 : Int32)) + (((gI s358 4 (ix (a1 >>> ((1 : Int32) &&& 31)))) + (gI s358 5 (ix (a1 >>> ((1 : Int32) &&& 31))))) &&& (15 : Int32)))) (a2 &&& (255 : Int32)))) rfl rfl (by decide) h362.1 rfl ?_
          have h363 := h362.2
          refine wpc_sl (n := 6) (c' := 11) (pc' := 113) (ls' := [some (.ref 0), some (.int a1), some (.int a2), some (.int (a1 >>> ((1 : Int32) &&& 31))), some (.int v356), some (.int v359), some (.int (((gI s358 4 (ix (a1 >>> ((1 : Int32) &&& 31)))) + (gI s358 5 (ix (a1 >>> ((1 : Int32) &&& 31))))) &&& (15 : Int32)))]) (st' := [.int (a1 >>> ((1 : Int32) &&& 31)), .ref 5, .int (a1 >>> ((1 : Int32) &&& 31)), .ref 5]) (s' := (sI s358 3 (ix (((a1 >>> ((1 : Int32) &&& 31)) * (16 : Int32)) + (((gI s358 4 (ix (a1 >>> ((1 : Int32) &&& 31)))) + (gI s358 5 (ix (a1 >>> ((1 : Int32) &&& 31))))) &&& (15 : Int32)))) (a2 &&& (255 : Int32)))) rfl ?_
          refine wpc_ldaI (a := 4) (N := 8) (v := (gI s358 5 (ix (a1 >>> ((1 : Int32) &&& 31))))) rfl rfl (by decide) h363.1 rfl ?_
          have h364 := h363.2
          refine wpc_sl (n := 2) (c' := 11) (pc' := 116) (ls' := [some (.ref 0), some (.int a1), some (.int a2), some (.int (a1 >>> ((1 : Int32) &&& 31))), some (.int v356), some (.int v359), some (.int (((gI s358 4 (ix (a1 >>> ((1 : Int32) &&& 31)))) + (gI s358 5 (ix (a1 >>> ((1 : Int32) &&& 31))))) &&& (15 : Int32)))]) (st' := [.int ((gI s358 5 (ix (a1 >>> ((1 : Int32) &&& 31)))) + (1 : Int32)), .int (a1 >>> ((1 : Int32) &&& 31)), .ref 5]) (s' := (sI s358 3 (ix (((a1 >>> ((1 : Int32) &&& 31)) * (16 : Int32)) + (((gI s358 4 (ix (a1 >>> ((1 : Int32) &&& 31)))) + (gI s358 5 (ix (a1 >>> ((1 : Int32) &&& 31))))) &&& (15 : Int32)))) (a2 &&& (255 : Int32)))) rfl ?_
          refine wpc_staI (a := 4) (N := 8) (s' := (sI (sI s358 3 (ix (((a1 >>> ((1 : Int32) &&& 31)) * (16 : Int32)) + (((gI s358 4 (ix (a1 >>> ((1 : Int32) &&& 31)))) + (gI s358 5 (ix (a1 >>> ((1 : Int32) &&& 31))))) &&& (15 : Int32)))) (a2 &&& (255 : Int32))) 5 (ix (a1 >>> ((1 : Int32) &&& 31))) ((gI s358 5 (ix (a1 >>> ((1 : Int32) &&& 31)))) + (1 : Int32)))) rfl rfl (by decide) h364.1 rfl ?_
          have h365 := h364.2
          refine wpc_sl (n := 5) (c' := 11) (pc' := 123) (ls' := [some (.ref 0), some (.int a1), some (.int a2), some (.int (a1 >>> ((1 : Int32) &&& 31))), some (.int v356), some (.int v359), some (.int (((gI s358 4 (ix (a1 >>> ((1 : Int32) &&& 31)))) + (gI s358 5 (ix (a1 >>> ((1 : Int32) &&& 31))))) &&& (15 : Int32)))]) (st' := [.int v356, .int ((2 : Int32) * (a1 >>> ((1 : Int32) &&& 31))), .ref 0]) (s' := (sI (sI s358 3 (ix (((a1 >>> ((1 : Int32) &&& 31)) * (16 : Int32)) + (((gI s358 4 (ix (a1 >>> ((1 : Int32) &&& 31)))) + (gI s358 5 (ix (a1 >>> ((1 : Int32) &&& 31))))) &&& (15 : Int32)))) (a2 &&& (255 : Int32))) 5 (ix (a1 >>> ((1 : Int32) &&& 31))) ((gI s358 5 (ix (a1 >>> ((1 : Int32) &&& 31)))) + (1 : Int32)))) rfl ?_
          refine wpc_callV (m' := 13) (me' := cm13) (as := [.int ((2 : Int32) * (a1 >>> ((1 : Int32) &&& 31))), .int v356]) (r := []) rfl rfl rfl rfl rfl ⟨by decide, (by first | decide | exact Nat.le_of_ble_eq_true rfl), (by first | decide | exact Nat.le_of_ble_eq_true rfl), rfl⟩ (calV.mono h365 fun s366 h368 => ?_)
          refine wpc_sl (n := 7) (c' := 11) (pc' := 134) (ls' := [some (.ref 0), some (.int a1), some (.int a2), some (.int (a1 >>> ((1 : Int32) &&& 31))), some (.int v356), some (.int v359), some (.int (((gI s358 4 (ix (a1 >>> ((1 : Int32) &&& 31)))) + (gI s358 5 (ix (a1 >>> ((1 : Int32) &&& 31))))) &&& (15 : Int32)))]) (st' := [.int v359, .int (((2 : Int32) * (a1 >>> ((1 : Int32) &&& 31))) + (1 : Int32)), .ref 0]) (s' := s366) rfl ?_
          refine wpc_callV (m' := 13) (me' := cm13) (as := [.int (((2 : Int32) * (a1 >>> ((1 : Int32) &&& 31))) + (1 : Int32)), .int v359]) (r := []) rfl rfl rfl rfl rfl ⟨by decide, (by first | decide | exact Nat.le_of_ble_eq_true rfl), (by first | decide | exact Nat.le_of_ble_eq_true rfl), rfl⟩ (calV.mono h368 fun s369 h371 => ?_)
          refine wpc_sl (n := 1) (c' := 11) (pc' := 138) (ls' := [some (.ref 0), some (.int a1), some (.int a2), some (.int (a1 >>> ((1 : Int32) &&& 31))), some (.int v356), some (.int v359), some (.int (((gI s358 4 (ix (a1 >>> ((1 : Int32) &&& 31)))) + (gI s358 5 (ix (a1 >>> ((1 : Int32) &&& 31))))) &&& (15 : Int32)))]) (st' := [.int (0 : Int32)]) (s' := s369) rfl ?_
          exact wpc_ret rfl rfl (fun q => absurd q (by decide)) rfl ⟨(0 : Int32), rfl, h371⟩
        · have h354 := h351.2 hc352
          refine wpc_sl (n := 1) (c' := 11) (pc' := 47) (ls' := [some (.ref 0), some (.int a1), some (.int a2), some (.int (a1 >>> ((1 : Int32) &&& 31))), none, none, none]) (st' := [.int (-2 : Int32)]) (s' := s338) rfl ?_
          exact wpc_ret rfl rfl (fun q => absurd q (by decide)) rfl ⟨(-2 : Int32), rfl, h354⟩
theorem c9_in (a1 : Int32) (a2 : Int32) (s : St) (Q : Int32 → St → Prop) (h : inb 64 a1 ∧ (((gI s 8 (ix a1)) = (0 : Int32)) → Q (0 : Int32) s) ∧ (¬ ((gI s 8 (ix a1)) = (0 : Int32)) → inb 64 a1 ∧ ((((gI s 7 (ix a1)) &&& (16 : Int32)) = (0 : Int32)) → calI PP 4 11 [.ref 0, .int a2] s (fun v451 s450 => inb 64 a1 ∧ calI PP 5 11 [.ref 0, .int (gI s450 7 (ix a1))] s450 (fun v455 s454 => Q (v451 &&& v455) s454))) ∧ (¬ (((gI s 7 (ix a1)) &&& (16 : Int32)) = (0 : Int32)) → inb 64 a1 ∧ Q (gI s 9 (ix a1)) s))) : calI PP 9 11 [.ref 0, .int a1, .int a2] s Q := by
  refine cal_of (me := cm9) (ls := [some (.ref 0), some (.int a1), some (.int a2)]) rfl (Nat.le_of_ble_eq_true rfl) rfl ?_
  refine wpc_sl (n := 3) (c' := 11) (pc' := 5) (ls' := [some (.ref 0), some (.int a1), some (.int a2)]) (st' := [.int a1, .ref 8]) (s' := s) rfl ?_
  refine wpc_ldaZ (a := 7) (N := 64) (v := (gI s 8 (ix a1))) rfl rfl (by decide) h.1 rfl ?_
  have h442 := h.2
  refine wpc_if (a := 11) (b := 9) rfl (by decide) rfl rfl (wpc_br (p := (gI s 8 (ix a1)) = (0 : Int32)) ⟨fun hc443 => ?_, fun hc443 => ?_⟩)
  · have h444 := h442.1 hc443
    refine wpc_sl (n := 1) (c' := 11) (pc' := 10) (ls' := [some (.ref 0), some (.int a1), some (.int a2)]) (st' := [.int (0 : Int32)]) (s' := s) rfl ?_
    exact wpc_ret rfl rfl (fun q => absurd q (by decide)) rfl ⟨(0 : Int32), rfl, h444⟩
  · have h445 := h442.2 hc443
    refine wpc_sl (n := 3) (c' := 11) (pc' := 16) (ls' := [some (.ref 0), some (.int a1), some (.int a2)]) (st' := [.int a1, .ref 7]) (s' := s) rfl ?_
    refine wpc_ldaI (a := 6) (N := 64) (v := (gI s 7 (ix a1))) rfl rfl (by decide) h445.1 rfl ?_
    have h446 := h445.2
    refine wpc_sl (n := 2) (c' := 11) (pc' := 20) (ls' := [some (.ref 0), some (.int a1), some (.int a2)]) (st' := [.int ((gI s 7 (ix a1)) &&& (16 : Int32))]) (s' := s) rfl ?_
    refine wpc_if (a := 30) (b := 23) rfl (by decide) rfl rfl (wpc_br (p := ((gI s 7 (ix a1)) &&& (16 : Int32)) = (0 : Int32)) ⟨fun hc447 => ?_, fun hc447 => ?_⟩)
    · have h448 := h446.1 hc447
      refine wpc_sl (n := 2) (c' := 11) (pc' := 32) (ls' := [some (.ref 0), some (.int a1), some (.int a2)]) (st' := [.int a2, .ref 0]) (s' := s) rfl ?_
      refine wpc_callI (m' := 4) (me' := cm4) (as := [.int a2]) (r := []) rfl rfl rfl rfl rfl ⟨by decide, (by first | decide | exact Nat.le_of_ble_eq_true rfl), (by first | decide | exact Nat.le_of_ble_eq_true rfl), rfl⟩ (calI.mono h448 fun v451 s450 h452 => ?_)
      refine wpc_sl (n := 4) (c' := 11) (pc' := 41) (ls' := [some (.ref 0), some (.int a1), some (.int a2)]) (st' := [.int a1, .ref 7, .ref 0, .int v451]) (s' := s450) rfl ?_
      refine wpc_ldaI (a := 6) (N := 64) (v := (gI s450 7 (ix a1))) rfl rfl (by decide) h452.1 rfl ?_
      have h453 := h452.2
      refine wpc_callI (m' := 5) (me' := cm5) (as := [.int (gI s450 7 (ix a1))]) (r := [.int v451]) rfl rfl rfl rfl rfl ⟨by decide, (by first | decide | exact Nat.le_of_ble_eq_true rfl), (by first | decide | exact Nat.le_of_ble_eq_true rfl), rfl⟩ (calI.mono h453 fun v455 s454 h456 => ?_)
      refine wpc_sl (n := 1) (c' := 11) (pc' := 46) (ls' := [some (.ref 0), some (.int a1), some (.int a2)]) (st' := [.int (v451 &&& v455)]) (s' := s454) rfl ?_
      exact wpc_ret rfl rfl (fun q => absurd q (by decide)) rfl ⟨(v451 &&& v455), rfl, h456⟩
    · have h449 := h446.2 hc447
      refine wpc_sl (n := 3) (c' := 11) (pc' := 28) (ls' := [some (.ref 0), some (.int a1), some (.int a2)]) (st' := [.int a1, .ref 9]) (s' := s) rfl ?_
      refine wpc_ldaI (a := 8) (N := 64) (v := (gI s 9 (ix a1))) rfl rfl (by decide) h449.1 rfl ?_
      have h457 := h449.2
      exact wpc_ret rfl rfl (fun q => absurd q (by decide)) rfl ⟨(gI s 9 (ix a1)), rfl, h457⟩
theorem c23_in (a1 : Int32) (s : St) (Q : St → Prop) (h : inb 64 a1 ∧ ((((gI s 7 (ix a1)) &&& (32 : Int32)) = (0 : Int32)) → inb 64 a1 ∧ ((((gI s 7 (ix a1)) &&& (16 : Int32)) = (0 : Int32)) → Q s) ∧ (¬ (((gI s 7 (ix a1)) &&& (16 : Int32)) = (0 : Int32)) → inb 64 a1 ∧ Q (sI s 9 (ix a1) (0 : Int32)))) ∧ (¬ (((gI s 7 (ix a1)) &&& (32 : Int32)) = (0 : Int32)) → inb 64 a1 ∧ inb 64 a1 ∧ Q (sI (sI s 8 (ix a1) (0 : Int32)) 9 (ix a1) (0 : Int32)))) : calV PP 23 11 [.ref 0, .int a1] s Q := by
  refine cal_of (me := cm23) (ls := [some (.ref 0), some (.int a1)]) rfl (Nat.le_of_ble_eq_true rfl) rfl ?_
  refine wpc_sl (n := 3) (c' := 11) (pc' := 5) (ls' := [some (.ref 0), some (.int a1)]) (st' := [.int a1, .ref 7]) (s' := s) rfl ?_
  refine wpc_ldaI (a := 6) (N := 64) (v := (gI s 7 (ix a1))) rfl rfl (by decide) h.1 rfl ?_
  have h458 := h.2
  refine wpc_sl (n := 2) (c' := 11) (pc' := 9) (ls' := [some (.ref 0), some (.int a1)]) (st' := [.int ((gI s 7 (ix a1)) &&& (32 : Int32))]) (s' := s) rfl ?_
  refine wpc_if (a := 29) (b := 12) rfl (by decide) rfl rfl (wpc_br (p := ((gI s 7 (ix a1)) &&& (32 : Int32)) = (0 : Int32)) ⟨fun hc459 => ?_, fun hc459 => ?_⟩)
  · have h460 := h458.1 hc459
    refine wpc_sl (n := 3) (c' := 11) (pc' := 34) (ls' := [some (.ref 0), some (.int a1)]) (st' := [.int a1, .ref 7]) (s' := s) rfl ?_
    refine wpc_ldaI (a := 6) (N := 64) (v := (gI s 7 (ix a1))) rfl rfl (by decide) h460.1 rfl ?_
    have h462 := h460.2
    refine wpc_sl (n := 2) (c' := 11) (pc' := 38) (ls' := [some (.ref 0), some (.int a1)]) (st' := [.int ((gI s 7 (ix a1)) &&& (16 : Int32))]) (s' := s) rfl ?_
    refine wpc_if (a := 48) (b := 41) rfl (by decide) rfl rfl (wpc_br (p := ((gI s 7 (ix a1)) &&& (16 : Int32)) = (0 : Int32)) ⟨fun hc463 => ?_, fun hc463 => ?_⟩)
    · have h464 := h462.1 hc463
      exact wpc_ret rfl rfl (fun q => absurd q (by decide)) rfl ⟨rfl, h464⟩
    · have h465 := h462.2 hc463
      refine wpc_sl (n := 4) (c' := 11) (pc' := 47) (ls' := [some (.ref 0), some (.int a1)]) (st' := [.int (0 : Int32), .int a1, .ref 9]) (s' := s) rfl ?_
      refine wpc_staI (a := 8) (N := 64) (s' := (sI s 9 (ix a1) (0 : Int32))) rfl rfl (by decide) h465.1 rfl ?_
      have h466 := h465.2
      exact wpc_ret rfl rfl (fun q => absurd q (by decide)) rfl ⟨rfl, h466⟩
  · have h461 := h458.2 hc459
    refine wpc_sl (n := 4) (c' := 11) (pc' := 18) (ls' := [some (.ref 0), some (.int a1)]) (st' := [.int (0 : Int32), .int a1, .ref 8]) (s' := s) rfl ?_
    refine wpc_staZ (a := 7) (N := 64) (s' := (sI s 8 (ix a1) (0 : Int32))) rfl rfl (by decide) h461.1 rfl ?_
    have h467 := h461.2
    refine wpc_sl (n := 4) (c' := 11) (pc' := 25) (ls' := [some (.ref 0), some (.int a1)]) (st' := [.int (0 : Int32), .int a1, .ref 9]) (s' := (sI s 8 (ix a1) (0 : Int32))) rfl ?_
    refine wpc_staI (a := 8) (N := 64) (s' := (sI (sI s 8 (ix a1) (0 : Int32)) 9 (ix a1) (0 : Int32))) rfl rfl (by decide) h467.1 rfl ?_
    have h468 := h467.2
    refine wpc_sl (n := 1) (c' := 11) (pc' := 48) (ls' := [some (.ref 0), some (.int a1)]) (st' := []) (s' := (sI (sI s 8 (ix a1) (0 : Int32)) 9 (ix a1) (0 : Int32))) rfl ?_
    exact wpc_ret rfl rfl (fun q => absurd q (by decide)) rfl ⟨rfl, h468⟩
theorem c22_in (a1 : Int32) (a2 : Int32) (s : St) (Q : Int32 → St → Prop) (h : calI PP 6 11 [.ref 0, .int a1] s (fun v406 s405 => ((v406 = (0 : Int32)) → Q (-6 : Int32) s405) ∧ (¬ (v406 = (0 : Int32)) → ((a2 < (1 : Int32)) → Q (-6 : Int32) s405) ∧ (¬ (a2 < (1 : Int32)) → ∀ m414, m414 = (if (16 : Int32) < a2 then (16 : Int32) else a2) → (wpcI PP 22 cm22 11 43 [some (.ref 0), some (.int a1), none, some (.int m414), some (.int (0 : Int32)), some (.int ((2 : Int32) * (gI s405 0 17))), some (.int (0 : Int32)), none, none] [] s405 Q))))) : calI PP 22 11 [.ref 0, .int a1, .int a2] s Q := by
  refine cal_of (me := cm22) (ls := [some (.ref 0), some (.int a1), some (.int a2), none, none, none, none, none, none]) rfl (Nat.le_of_ble_eq_true rfl) rfl ?_
  refine wpc_sl (n := 2) (c' := 11) (pc' := 2) (ls' := [some (.ref 0), some (.int a1), some (.int a2), none, none, none, none, none, none]) (st' := [.int a1, .ref 0]) (s' := s) rfl ?_
  refine wpc_callI (m' := 6) (me' := cm6) (as := [.int a1]) (r := []) rfl rfl rfl rfl rfl ⟨by decide, (by first | decide | exact Nat.le_of_ble_eq_true rfl), (by first | decide | exact Nat.le_of_ble_eq_true rfl), rfl⟩ (calI.mono h fun v406 s405 h407 => ?_)
  refine wpc_if (a := 13) (b := 8) rfl (by decide) rfl rfl (wpc_br (p := v406 = (0 : Int32)) ⟨fun hc408 => ?_, fun hc408 => ?_⟩)
  · have h409 := h407.1 hc408
    refine wpc_sl (n := 1) (c' := 11) (pc' := 15) (ls' := [some (.ref 0), some (.int a1), some (.int a2), none, none, none, none, none, none]) (st' := [.int (-6 : Int32)]) (s' := s405) rfl ?_
    exact wpc_ret rfl rfl (fun q => absurd q (by decide)) rfl ⟨(-6 : Int32), rfl, h409⟩
  · have h410 := h407.2 hc408
    refine wpc_sl (n := 2) (c' := 11) (pc' := 10) (ls' := [some (.ref 0), some (.int a1), some (.int a2), none, none, none, none, none, none]) (st' := [.int (1 : Int32), .int a2]) (s' := s405) rfl ?_
    refine wpc_icmp (a := 16) (b := 13) rfl (by decide) rfl rfl (wpc_br (p := a2 < (1 : Int32)) ⟨fun hc411 => ?_, fun hc411 => ?_⟩)
    · have h412 := h410.1 hc411
      refine wpc_sl (n := 1) (c' := 11) (pc' := 15) (ls' := [some (.ref 0), some (.int a1), some (.int a2), none, none, none, none, none, none]) (st' := [.int (-6 : Int32)]) (s' := s405) rfl ?_
      exact wpc_ret rfl rfl (fun q => absurd q (by decide)) rfl ⟨(-6 : Int32), rfl, h412⟩
    · have h413 := h410.2 hc411
      refine wpc_sl (n := 2) (c' := 11) (pc' := 19) (ls' := [some (.ref 0), some (.int a1), some (.int a2), none, none, none, none, none, none]) (st' := [.int (16 : Int32), .int a2]) (s' := s405) rfl ?_
      have hm415 : ∀ m414, m414 = (if (16 : Int32) < a2 then (16 : Int32) else a2) → wpcI PP 22 cm22 11 28 [some (.ref 0), some (.int a1), some (.int a2), none, none, none, none, none, none] [.int m414] s405 Q := by
        intro m414 em414
        have h416 := h413 m414 em414
        refine wpc_sl (n := 10) (c' := 11) (pc' := 43) (ls' := [some (.ref 0), some (.int a1), some (.int a2), some (.int m414), some (.int (0 : Int32)), some (.int ((2 : Int32) * (gI s405 0 17))), some (.int (0 : Int32)), none, none]) (st' := []) (s' := s405) rfl ?_
        exact wpc_lle (ls := [some (.ref 0), some (.int a1), none, some (.int m414), some (.int (0 : Int32)), some (.int ((2 : Int32) * (gI s405 0 17))), some (.int (0 : Int32)), none, none]) ⟨rfl, rfl, rfl, rfl, rfl, rfl, trivial⟩ h416
      refine wpc_icmp (a := 27) (b := 22) rfl (by decide) rfl rfl (wpc_br (p := (16 : Int32) < a2) ⟨fun hc417 => ?_, fun hc417 => ?_⟩)
      · refine wpc_sl (n := 2) (c' := 11) (pc' := 28) (ls' := [some (.ref 0), some (.int a1), some (.int a2), none, none, none, none, none, none]) (st' := [.int (16 : Int32)]) (s' := s405) rfl ?_
        first | exact hm415 _ (by simp only [if_pos hc417]) | exact wpc_lle (by repeat (first | exact trivial | refine ⟨rfl, ?_⟩)) (hm415 _ (by simp only [if_pos hc417]))
      · refine wpc_sl (n := 1) (c' := 11) (pc' := 28) (ls' := [some (.ref 0), some (.int a1), some (.int a2), none, none, none, none, none, none]) (st' := [.int a2]) (s' := s405) rfl ?_
        first | exact hm415 _ (by simp only [if_neg hc417]) | exact wpc_lle (by repeat (first | exact trivial | refine ⟨rfl, ?_⟩)) (hm415 _ (by simp only [if_neg hc417]))
theorem c22_43 (x1 : Int32) (x3 : Int32) (x4 : Int32) (x5 : Int32) (x6 : Int32) (s : St) (Q : Int32 → St → Prop) (h : ((x6 < x5) → ((x4 < x3) → calI PP 8 11 [.ref 0, .int x1, .int x6] s (fun v425 s424 => inb 64 v425 ∧ (((gI s424 6 (ix v425)) = (0 : Int32)) → wpcI PP 22 cm22 11 123 [some (.ref 0), some (.int x1), none, some (.int x3), some (.int x4), some (.int x5), some (.int x6), none, none] [] s424 Q) ∧ (¬ ((gI s424 6 (ix v425)) = (0 : Int32)) → calI PP 9 11 [.ref 0, .int v425, .int x6] s424 (fun v432 s431 => ((v432 = (0 : Int32)) → wpcI PP 22 cm22 11 123 [some (.ref 0), some (.int x1), none, some (.int x3), some (.int x4), some (.int x5), some (.int x6), none, none] [] s431 Q) ∧ (¬ (v432 = (0 : Int32)) → inb 16 x4 ∧ inb 16 x4 ∧ calV PP 23 11 [.ref 0, .int v425] (sI (sI s431 10 (ix x4) x6) 11 (ix x4) v432) (fun s439 => wpcI PP 22 cm22 11 123 [some (.ref 0), some (.int x1), none, some (.int x3), some (.int (x4 + (1 : Int32))), some (.int x5), some (.int x6), none, none] [] s439 Q)))))) ∧ (¬ (x4 < x3) → wpcI PP 22 cm22 11 129 [some (.ref 0), none, none, none, some (.int x4), none, none, none, none] [] s Q)) ∧ (¬ (x6 < x5) → wpcI PP 22 cm22 11 129 [some (.ref 0), none, none, none, some (.int x4), none, none, none, none] [] s Q)) : wpcI PP 22 cm22 11 43 [some (.ref 0), some (.int x1), none, some (.int x3), some (.int x4), some (.int x5), some (.int x6), none, none] [] s Q := by
  refine wpc_sl (n := 2) (c' := 11) (pc' := 47) (ls' := [some (.ref 0), some (.int x1), none, some (.int x3), some (.int x4), some (.int x5), some (.int x6), none, none]) (st' := [.int x5, .int x6]) (s' := s) rfl ?_
  refine wpc_icmp (a := 129) (b := 50) rfl (by decide) rfl rfl (wpc_br (p := x6 < x5) ⟨fun hc418 => ?_, fun hc418 => ?_⟩)
  · have h419 := h.1 hc418
    refine wpc_sl (n := 2) (c' := 11) (pc' := 53) (ls' := [some (.ref 0), some (.int x1), none, some (.int x3), some (.int x4), some (.int x5), some (.int x6), none, none]) (st' := [.int x3, .int x4]) (s' := s) rfl ?_
    refine wpc_icmp (a := 129) (b := 56) rfl (by decide) rfl rfl (wpc_br (p := x4 < x3) ⟨fun hc421 => ?_, fun hc421 => ?_⟩)
    · have h422 := h419.1 hc421
      refine wpc_sl (n := 3) (c' := 11) (pc' := 60) (ls' := [some (.ref 0), some (.int x1), none, some (.int x3), some (.int x4), some (.int x5), some (.int x6), none, none]) (st' := [.int x6, .int x1, .ref 0]) (s' := s) rfl ?_
      refine wpc_callI (m' := 8) (me' := cm8) (as := [.int x1, .int x6]) (r := []) rfl rfl rfl rfl rfl ⟨by decide, (by first | decide | exact Nat.le_of_ble_eq_true rfl), (by first | decide | exact Nat.le_of_ble_eq_true rfl), rfl⟩ (calI.mono h422 fun v425 s424 h426 => ?_)
      refine wpc_sl (n := 4) (c' := 11) (pc' := 71) (ls' := [some (.ref 0), some (.int x1), none, some (.int x3), some (.int x4), some (.int x5), some (.int x6), some (.int v425), none]) (st' := [.int v425, .ref 6]) (s' := s424) rfl ?_
      refine wpc_ldaZ (a := 5) (N := 64) (v := (gI s424 6 (ix v425))) rfl rfl (by decide) h426.1 rfl ?_
      have h427 := h426.2
      refine wpc_if (a := 78) (b := 75) rfl (by decide) rfl rfl (wpc_br (p := (gI s424 6 (ix v425)) = (0 : Int32)) ⟨fun hc428 => ?_, fun hc428 => ?_⟩)
      · have h429 := h427.1 hc428
        refine wpc_sl (n := 1) (c' := 11) (pc' := 123) (ls' := [some (.ref 0), some (.int x1), none, some (.int x3), some (.int x4), some (.int x5), some (.int x6), some (.int v425), none]) (st' := []) (s' := s424) rfl ?_
        exact wpc_lle (ls := [some (.ref 0), some (.int x1), none, some (.int x3), some (.int x4), some (.int x5), some (.int x6), none, none]) ⟨rfl, rfl, rfl, rfl, rfl, rfl, trivial⟩ h429
      · have h430 := h427.2 hc428
        refine wpc_sl (n := 3) (c' := 11) (pc' := 83) (ls' := [some (.ref 0), some (.int x1), none, some (.int x3), some (.int x4), some (.int x5), some (.int x6), some (.int v425), none]) (st' := [.int x6, .int v425, .ref 0]) (s' := s424) rfl ?_
        refine wpc_callI (m' := 9) (me' := cm9) (as := [.int v425, .int x6]) (r := []) rfl rfl rfl rfl rfl ⟨by decide, (by first | decide | exact Nat.le_of_ble_eq_true rfl), (by first | decide | exact Nat.le_of_ble_eq_true rfl), rfl⟩ (calI.mono h430 fun v432 s431 h433 => ?_)
        refine wpc_sl (n := 2) (c' := 11) (pc' := 90) (ls' := [some (.ref 0), some (.int x1), none, some (.int x3), some (.int x4), some (.int x5), some (.int x6), some (.int v425), some (.int v432)]) (st' := [.int v432]) (s' := s431) rfl ?_
        refine wpc_if (a := 96) (b := 93) rfl (by decide) rfl rfl (wpc_br (p := v432 = (0 : Int32)) ⟨fun hc434 => ?_, fun hc434 => ?_⟩)
        · have h435 := h433.1 hc434
          refine wpc_sl (n := 1) (c' := 11) (pc' := 123) (ls' := [some (.ref 0), some (.int x1), none, some (.int x3), some (.int x4), some (.int x5), some (.int x6), some (.int v425), some (.int v432)]) (st' := []) (s' := s431) rfl ?_
          exact wpc_lle (ls := [some (.ref 0), some (.int x1), none, some (.int x3), some (.int x4), some (.int x5), some (.int x6), none, none]) ⟨rfl, rfl, rfl, rfl, rfl, rfl, trivial⟩ h435
        · have h436 := h433.2 hc434
          refine wpc_sl (n := 4) (c' := 11) (pc' := 104) (ls' := [some (.ref 0), some (.int x1), none, some (.int x3), some (.int x4), some (.int x5), some (.int x6), some (.int v425), some (.int v432)]) (st' := [.int x6, .int x4, .ref 10]) (s' := s431) rfl ?_
          refine wpc_staI (a := 9) (N := 16) (s' := (sI s431 10 (ix x4) x6)) rfl rfl (by decide) h436.1 rfl ?_
          have h437 := h436.2
          refine wpc_sl (n := 4) (c' := 11) (pc' := 113) (ls' := [some (.ref 0), some (.int x1), none, some (.int x3), some (.int x4), some (.int x5), some (.int x6), some (.int v425), some (.int v432)]) (st' := [.int v432, .int x4, .ref 11]) (s' := (sI s431 10 (ix x4) x6)) rfl ?_
          refine wpc_staI (a := 10) (N := 16) (s' := (sI (sI s431 10 (ix x4) x6) 11 (ix x4) v432)) rfl rfl (by decide) h437.1 rfl ?_
          have h438 := h437.2
          refine wpc_sl (n := 3) (c' := 11) (pc' := 120) (ls' := [some (.ref 0), some (.int x1), none, some (.int x3), some (.int (x4 + (1 : Int32))), some (.int x5), some (.int x6), some (.int v425), some (.int v432)]) (st' := [.int v425, .ref 0]) (s' := (sI (sI s431 10 (ix x4) x6) 11 (ix x4) v432)) rfl ?_
          refine wpc_callV (m' := 23) (me' := cm23) (as := [.int v425]) (r := []) rfl rfl rfl rfl rfl ⟨by decide, (by first | decide | exact Nat.le_of_ble_eq_true rfl), (by first | decide | exact Nat.le_of_ble_eq_true rfl), rfl⟩ (calV.mono h438 fun s439 h441 => ?_)
          exact wpc_lle (ls := [some (.ref 0), some (.int x1), none, some (.int x3), some (.int (x4 + (1 : Int32))), some (.int x5), some (.int x6), none, none]) ⟨rfl, rfl, rfl, rfl, rfl, rfl, trivial⟩ h441
    · have h423 := h419.2 hc421
      exact wpc_lle (ls := [some (.ref 0), none, none, none, some (.int x4), none, none, none, none]) ⟨rfl, rfl, trivial⟩ h423
  · have h420 := h.2 hc418
    exact wpc_lle (ls := [some (.ref 0), none, none, none, some (.int x4), none, none, none, none]) ⟨rfl, rfl, trivial⟩ h420
theorem c22_123 (x1 : Int32) (x3 : Int32) (x4 : Int32) (x5 : Int32) (x6 : Int32) (s : St) (Q : Int32 → St → Prop) (h : wpcI PP 22 cm22 11 43 [some (.ref 0), some (.int x1), none, some (.int x3), some (.int x4), some (.int x5), some (.int (x6 + (1 : Int32))), none, none] [] s Q) : wpcI PP 22 cm22 11 123 [some (.ref 0), some (.int x1), none, some (.int x3), some (.int x4), some (.int x5), some (.int x6), none, none] [] s Q := by
  refine wpc_sl (n := 2) (c' := 11) (pc' := 43) (ls' := [some (.ref 0), some (.int x1), none, some (.int x3), some (.int x4), some (.int x5), some (.int (x6 + (1 : Int32))), none, none]) (st' := []) (s' := s) rfl ?_
  exact h
theorem c22_129 (x4 : Int32) (s : St) (Q : Int32 → St → Prop) (h : Q x4 (sI s 0 31 x4)) : wpcI PP 22 cm22 11 129 [some (.ref 0), none, none, none, some (.int x4), none, none, none, none] [] s Q := by
  refine wpc_sl (n := 4) (c' := 11) (pc' := 137) (ls' := [some (.ref 0), none, none, none, some (.int x4), none, none, none, none]) (st' := [.int x4]) (s' := (sI s 0 31 x4)) rfl ?_
  exact wpc_ret rfl rfl (fun q => absurd q (by decide)) rfl ⟨x4, rfl, h⟩
theorem c24_in (a1 : Int32) (s : St) (Q : Int32 → St → Prop) (h : ((a1 < (0 : Int32)) → Q (-1 : Int32) s) ∧ (¬ (a1 < (0 : Int32)) → ((a1 < (gI s 0 31)) → inb 16 a1 ∧ Q (gI s 10 (ix a1)) s) ∧ (¬ (a1 < (gI s 0 31)) → Q (-1 : Int32) s))) : calI PP 24 11 [.ref 0, .int a1] s Q := by
  refine cal_of (me := cm24) (ls := [some (.ref 0), some (.int a1)]) rfl (Nat.le_of_ble_eq_true rfl) rfl ?_
  refine wpc_sl (n := 1) (c' := 11) (pc' := 1) (ls' := [some (.ref 0), some (.int a1)]) (st' := [.int a1]) (s' := s) rfl ?_
  refine wpc_if (a := 12) (b := 4) rfl (by decide) rfl rfl (wpc_br (p := a1 < (0 : Int32)) ⟨fun hc481 => ?_, fun hc481 => ?_⟩)
  · have h482 := h.1 hc481
    refine wpc_sl (n := 1) (c' := 11) (pc' := 13) (ls' := [some (.ref 0), some (.int a1)]) (st' := [.int (-1 : Int32)]) (s' := s) rfl ?_
    exact wpc_ret rfl rfl (fun q => absurd q (by decide)) rfl ⟨(-1 : Int32), rfl, h482⟩
  · have h483 := h.2 hc481
    refine wpc_sl (n := 3) (c' := 11) (pc' := 9) (ls' := [some (.ref 0), some (.int a1)]) (st' := [.int (gI s 0 31), .int a1]) (s' := s) rfl ?_
    refine wpc_icmp (a := 14) (b := 12) rfl (by decide) rfl rfl (wpc_br (p := a1 < (gI s 0 31)) ⟨fun hc484 => ?_, fun hc484 => ?_⟩)
    · have h485 := h483.1 hc484
      refine wpc_sl (n := 3) (c' := 11) (pc' := 19) (ls' := [some (.ref 0), some (.int a1)]) (st' := [.int a1, .ref 10]) (s' := s) rfl ?_
      refine wpc_ldaI (a := 9) (N := 16) (v := (gI s 10 (ix a1))) rfl rfl (by decide) h485.1 rfl ?_
      have h487 := h485.2
      exact wpc_ret rfl rfl (fun q => absurd q (by decide)) rfl ⟨(gI s 10 (ix a1)), rfl, h487⟩
    · have h486 := h483.2 hc484
      refine wpc_sl (n := 1) (c' := 11) (pc' := 13) (ls' := [some (.ref 0), some (.int a1)]) (st' := [.int (-1 : Int32)]) (s' := s) rfl ?_
      exact wpc_ret rfl rfl (fun q => absurd q (by decide)) rfl ⟨(-1 : Int32), rfl, h486⟩
theorem c25_in (a1 : Int32) (s : St) (Q : Int32 → St → Prop) (h : ((a1 < (0 : Int32)) → Q (0 : Int32) s) ∧ (¬ (a1 < (0 : Int32)) → ((a1 < (gI s 0 31)) → inb 16 a1 ∧ Q (gI s 11 (ix a1)) s) ∧ (¬ (a1 < (gI s 0 31)) → Q (0 : Int32) s))) : calI PP 25 11 [.ref 0, .int a1] s Q := by
  refine cal_of (me := cm25) (ls := [some (.ref 0), some (.int a1)]) rfl (Nat.le_of_ble_eq_true rfl) rfl ?_
  refine wpc_sl (n := 1) (c' := 11) (pc' := 1) (ls' := [some (.ref 0), some (.int a1)]) (st' := [.int a1]) (s' := s) rfl ?_
  refine wpc_if (a := 12) (b := 4) rfl (by decide) rfl rfl (wpc_br (p := a1 < (0 : Int32)) ⟨fun hc488 => ?_, fun hc488 => ?_⟩)
  · have h489 := h.1 hc488
    refine wpc_sl (n := 1) (c' := 11) (pc' := 13) (ls' := [some (.ref 0), some (.int a1)]) (st' := [.int (0 : Int32)]) (s' := s) rfl ?_
    exact wpc_ret rfl rfl (fun q => absurd q (by decide)) rfl ⟨(0 : Int32), rfl, h489⟩
  · have h490 := h.2 hc488
    refine wpc_sl (n := 3) (c' := 11) (pc' := 9) (ls' := [some (.ref 0), some (.int a1)]) (st' := [.int (gI s 0 31), .int a1]) (s' := s) rfl ?_
    refine wpc_icmp (a := 14) (b := 12) rfl (by decide) rfl rfl (wpc_br (p := a1 < (gI s 0 31)) ⟨fun hc491 => ?_, fun hc491 => ?_⟩)
    · have h492 := h490.1 hc491
      refine wpc_sl (n := 3) (c' := 11) (pc' := 19) (ls' := [some (.ref 0), some (.int a1)]) (st' := [.int a1, .ref 11]) (s' := s) rfl ?_
      refine wpc_ldaI (a := 10) (N := 16) (v := (gI s 11 (ix a1))) rfl rfl (by decide) h492.1 rfl ?_
      have h494 := h492.2
      exact wpc_ret rfl rfl (fun q => absurd q (by decide)) rfl ⟨(gI s 11 (ix a1)), rfl, h494⟩
    · have h493 := h490.2 hc491
      refine wpc_sl (n := 1) (c' := 11) (pc' := 13) (ls' := [some (.ref 0), some (.int a1)]) (st' := [.int (0 : Int32)]) (s' := s) rfl ?_
      exact wpc_ret rfl rfl (fun q => absurd q (by decide)) rfl ⟨(0 : Int32), rfl, h493⟩
theorem l2r1W1_in (a1 : Int32) (a2 : Int32) (a3 : Int32) (s : St) (Q : Int32 → Wd → Prop) (h : calI PP 24 11 [.ref 0, .int a1] s (fun v470 s469 => ((v470 = a2) → calI PP 25 11 [.ref 0, .int a1] s469 (fun v476 s475 => ((v476 = a3) → Q (1 : Int32) (W1 s475)) ∧ (¬ (v476 = a3) → Q (0 : Int32) (W1 s475)))) ∧ (¬ (v470 = a2) → Q (0 : Int32) (W1 s469)))) : lalI PP QQ none 2 [.ref 1, .int a1, .int a2, .int a3] (W1 s) Q := by
  refine lal_of (me := lm2) (ls := [some (.ref 1), some (.int a1), some (.int a2), some (.int a3)]) rfl (Nat.le_of_ble_eq_true rfl) rfl ?_
  refine wpl_sl (n := 2) (pc' := 2) (ls' := [some (.ref 1), some (.int a1), some (.int a2), some (.int a3)]) (st' := [.int a1, .ref 1]) rfl ?_
  refine wpl_v1 (m' := 24) (me' := cm24) (as := [.int a1]) (r := []) rfl rfl rfl rfl rfl ⟨by decide, (by first | decide | exact Nat.le_of_ble_eq_true rfl), (by first | decide | exact Nat.le_of_ble_eq_true rfl), rfl⟩ (cal_I (calI.mono h fun v470 s469 h471 => ?_))
  refine wpl_sl (n := 1) (pc' := 6) (ls' := [some (.ref 1), some (.int a1), some (.int a2), some (.int a3)]) (st' := [.int a2, .int v470]) rfl ?_
  refine wpl_icmp (a := 11) (b := 9) rfl (by decide) rfl rfl (wpl_br (p := v470 = a2) ⟨fun hc472 => ?_, fun hc472 => ?_⟩)
  · have h473 := h471.1 hc472
    refine wpl_sl (n := 2) (pc' := 13) (ls' := [some (.ref 1), some (.int a1), some (.int a2), some (.int a3)]) (st' := [.int a1, .ref 1]) rfl ?_
    refine wpl_v1 (m' := 25) (me' := cm25) (as := [.int a1]) (r := []) rfl rfl rfl rfl rfl ⟨by decide, (by first | decide | exact Nat.le_of_ble_eq_true rfl), (by first | decide | exact Nat.le_of_ble_eq_true rfl), rfl⟩ (cal_I (calI.mono h473 fun v476 s475 h477 => ?_))
    refine wpl_sl (n := 1) (pc' := 17) (ls' := [some (.ref 1), some (.int a1), some (.int a2), some (.int a3)]) (st' := [.int a3, .int v476]) rfl ?_
    refine wpl_icmp (a := 24) (b := 20) rfl (by decide) rfl rfl (wpl_br (p := v476 = a3) ⟨fun hc478 => ?_, fun hc478 => ?_⟩)
    · have h479 := h477.1 hc478
      refine wpl_sl (n := 2) (pc' := 25) (ls' := [some (.ref 1), some (.int a1), some (.int a2), some (.int a3)]) (st' := [.int (1 : Int32)]) rfl ?_
      exact wpl_ret rfl rfl rfl ⟨(1 : Int32), rfl, h479⟩
    · have h480 := h477.2 hc478
      refine wpl_sl (n := 1) (pc' := 25) (ls' := [some (.ref 1), some (.int a1), some (.int a2), some (.int a3)]) (st' := [.int (0 : Int32)]) rfl ?_
      exact wpl_ret rfl rfl rfl ⟨(0 : Int32), rfl, h480⟩
  · have h474 := h471.2 hc472
    refine wpl_sl (n := 1) (pc' := 10) (ls' := [some (.ref 1), some (.int a1), some (.int a2), some (.int a3)]) (st' := [.int (0 : Int32)]) rfl ?_
    exact wpl_ret rfl rfl rfl ⟨(0 : Int32), rfl, h474⟩
theorem c17_in (a1 : Int32) (s : St) (Q : Int32 → St → Prop) (h : calI PP 3 11 [.ref 0, .int a1] s (fun v496 s495 => ((v496 = (0 : Int32)) → Q (-1 : Int32) s495) ∧ (¬ (v496 = (0 : Int32)) → (((a1 &&& (1 : Int32)) = (0 : Int32)) → inb 8 (a1 >>> ((1 : Int32) &&& 31)) ∧ (((gI s495 5 (ix (a1 >>> ((1 : Int32) &&& 31)))) = (0 : Int32)) → inb 8 (a1 >>> ((1 : Int32) &&& 31)) ∧ (((gI s495 2 (ix (a1 >>> ((1 : Int32) &&& 31)))) = (0 : Int32)) → Q (-3 : Int32) s495) ∧ (¬ ((gI s495 2 (ix (a1 >>> ((1 : Int32) &&& 31)))) = (0 : Int32)) → Q (-2 : Int32) s495)) ∧ (¬ ((gI s495 5 (ix (a1 >>> ((1 : Int32) &&& 31)))) = (0 : Int32)) → calI PP 4 11 [.ref 0, .int ((2 : Int32) * (a1 >>> ((1 : Int32) &&& 31)))] s495 (fun v513 s512 => calI PP 4 11 [.ref 0, .int (((2 : Int32) * (a1 >>> ((1 : Int32) &&& 31))) + (1 : Int32))] s512 (fun v516 s515 => inb 8 (a1 >>> ((1 : Int32) &&& 31)) ∧ inb 128 (((a1 >>> ((1 : Int32) &&& 31)) * (16 : Int32)) + ((gI s515 4 (ix (a1 >>> ((1 : Int32) &&& 31)))) &&& (15 : Int32))) ∧ inb 8 (a1 >>> ((1 : Int32) &&& 31)) ∧ inb 8 (a1 >>> ((1 : Int32) &&& 31)) ∧ inb 8 (a1 >>> ((1 : Int32) &&& 31)) ∧ inb 8 (a1 >>> ((1 : Int32) &&& 31)) ∧ calV PP 13 11 [.ref 0, .int ((2 : Int32) * (a1 >>> ((1 : Int32) &&& 31))), .int v513] (sI (sI s515 4 (ix (a1 >>> ((1 : Int32) &&& 31))) (((gI s515 4 (ix (a1 >>> ((1 : Int32) &&& 31)))) + (1 : Int32)) &&& (15 : Int32))) 5 (ix (a1 >>> ((1 : Int32) &&& 31))) ((gI s515 5 (ix (a1 >>> ((1 : Int32) &&& 31)))) - (1 : Int32))) (fun s524 => calV PP 13 11 [.ref 0, .int (((2 : Int32) * (a1 >>> ((1 : Int32) &&& 31))) + (1 : Int32)), .int v516] s524 (fun s527 => Q (gI s515 3 (ix (((a1 >>> ((1 : Int32) &&& 31)) * (16 : Int32)) + ((gI s515 4 (ix (a1 >>> ((1 : Int32) &&& 31)))) &&& (15 : Int32))))) s527)))))) ∧ (¬ ((a1 &&& (1 : Int32)) = (0 : Int32)) → Q (-1 : Int32) s495)))) : calI PP 17 11 [.ref 0, .int a1] s Q := by
  refine cal_of (me := cm17) (ls := [some (.ref 0), some (.int a1), none, none, none, none]) rfl (Nat.le_of_ble_eq_true rfl) rfl ?_
  refine wpc_sl (n := 2) (c' := 11) (pc' := 2) (ls' := [some (.ref 0), some (.int a1), none, none, none, none]) (st' := [.int a1, .ref 0]) (s' := s) rfl ?_
  refine wpc_callI (m' := 3) (me' := cm3) (as := [.int a1]) (r := []) rfl rfl rfl rfl rfl ⟨by decide, (by first | decide | exact Nat.le_of_ble_eq_true rfl), (by first | decide | exact Nat.le_of_ble_eq_true rfl), rfl⟩ (calI.mono h fun v496 s495 h497 => ?_)
  refine wpc_if (a := 14) (b := 8) rfl (by decide) rfl rfl (wpc_br (p := v496 = (0 : Int32)) ⟨fun hc498 => ?_, fun hc498 => ?_⟩)
  · have h499 := h497.1 hc498
    refine wpc_sl (n := 1) (c' := 11) (pc' := 15) (ls' := [some (.ref 0), some (.int a1), none, none, none, none]) (st' := [.int (-1 : Int32)]) (s' := s495) rfl ?_
    exact wpc_ret rfl rfl (fun q => absurd q (by decide)) rfl ⟨(-1 : Int32), rfl, h499⟩
  · have h500 := h497.2 hc498
    refine wpc_sl (n := 3) (c' := 11) (pc' := 11) (ls' := [some (.ref 0), some (.int a1), none, none, none, none]) (st' := [.int (a1 &&& (1 : Int32))]) (s' := s495) rfl ?_
    refine wpc_if (a := 16) (b := 14) rfl (by decide) rfl rfl (wpc_br (p := (a1 &&& (1 : Int32)) = (0 : Int32)) ⟨fun hc501 => ?_, fun hc501 => ?_⟩)
    · have h502 := h500.1 hc501
      refine wpc_sl (n := 7) (c' := 11) (pc' := 25) (ls' := [some (.ref 0), some (.int a1), some (.int (a1 >>> ((1 : Int32) &&& 31))), none, none, none]) (st' := [.int (a1 >>> ((1 : Int32) &&& 31)), .ref 5]) (s' := s495) rfl ?_
      refine wpc_ldaI (a := 4) (N := 8) (v := (gI s495 5 (ix (a1 >>> ((1 : Int32) &&& 31))))) rfl rfl (by decide) h502.1 rfl ?_
      have h504 := h502.2
      refine wpc_if (a := 44) (b := 29) rfl (by decide) rfl rfl (wpc_br (p := (gI s495 5 (ix (a1 >>> ((1 : Int32) &&& 31)))) = (0 : Int32)) ⟨fun hc505 => ?_, fun hc505 => ?_⟩)
      · have h506 := h504.1 hc505
        refine wpc_sl (n := 3) (c' := 11) (pc' := 34) (ls' := [some (.ref 0), some (.int a1), some (.int (a1 >>> ((1 : Int32) &&& 31))), none, none, none]) (st' := [.int (a1 >>> ((1 : Int32) &&& 31)), .ref 2]) (s' := s495) rfl ?_
        refine wpc_ldaZ (a := 1) (N := 8) (v := (gI s495 2 (ix (a1 >>> ((1 : Int32) &&& 31))))) rfl rfl (by decide) h506.1 rfl ?_
        have h508 := h506.2
        refine wpc_if (a := 41) (b := 38) rfl (by decide) rfl rfl (wpc_br (p := (gI s495 2 (ix (a1 >>> ((1 : Int32) &&& 31)))) = (0 : Int32)) ⟨fun hc509 => ?_, fun hc509 => ?_⟩)
        · have h510 := h508.1 hc509
          refine wpc_sl (n := 1) (c' := 11) (pc' := 43) (ls' := [some (.ref 0), some (.int a1), some (.int (a1 >>> ((1 : Int32) &&& 31))), none, none, none]) (st' := [.int (-3 : Int32)]) (s' := s495) rfl ?_
          exact wpc_ret rfl rfl (fun q => absurd q (by decide)) rfl ⟨(-3 : Int32), rfl, h510⟩
        · have h511 := h508.2 hc509
          refine wpc_sl (n := 1) (c' := 11) (pc' := 40) (ls' := [some (.ref 0), some (.int a1), some (.int (a1 >>> ((1 : Int32) &&& 31))), none, none, none]) (st' := [.int (-2 : Int32)]) (s' := s495) rfl ?_
          exact wpc_ret rfl rfl (fun q => absurd q (by decide)) rfl ⟨(-2 : Int32), rfl, h511⟩
      · have h507 := h504.2 hc505
        refine wpc_sl (n := 4) (c' := 11) (pc' := 48) (ls' := [some (.ref 0), some (.int a1), some (.int (a1 >>> ((1 : Int32) &&& 31))), none, none, none]) (st' := [.int ((2 : Int32) * (a1 >>> ((1 : Int32) &&& 31))), .ref 0]) (s' := s495) rfl ?_
        refine wpc_callI (m' := 4) (me' := cm4) (as := [.int ((2 : Int32) * (a1 >>> ((1 : Int32) &&& 31)))]) (r := []) rfl rfl rfl rfl rfl ⟨by decide, (by first | decide | exact Nat.le_of_ble_eq_true rfl), (by first | decide | exact Nat.le_of_ble_eq_true rfl), rfl⟩ (calI.mono h507 fun v513 s512 h514 => ?_)
        refine wpc_sl (n := 7) (c' := 11) (pc' := 58) (ls' := [some (.ref 0), some (.int a1), some (.int (a1 >>> ((1 : Int32) &&& 31))), some (.int v513), none, none]) (st' := [.int (((2 : Int32) * (a1 >>> ((1 : Int32) &&& 31))) + (1 : Int32)), .ref 0]) (s' := s512) rfl ?_
        refine wpc_callI (m' := 4) (me' := cm4) (as := [.int (((2 : Int32) * (a1 >>> ((1 : Int32) &&& 31))) + (1 : Int32))]) (r := []) rfl rfl rfl rfl rfl ⟨by decide, (by first | decide | exact Nat.le_of_ble_eq_true rfl), (by first | decide | exact Nat.le_of_ble_eq_true rfl), rfl⟩ (calI.mono h514 fun v516 s515 h517 => ?_)
        refine wpc_sl (n := 9) (c' := 11) (pc' := 76) (ls' := [some (.ref 0), some (.int a1), some (.int (a1 >>> ((1 : Int32) &&& 31))), some (.int v513), some (.int v516), none]) (st' := [.int (a1 >>> ((1 : Int32) &&& 31)), .ref 4, .int ((a1 >>> ((1 : Int32) &&& 31)) * (16 : Int32)), .ref 3]) (s' := s515) rfl ?_
        refine wpc_ldaI (a := 3) (N := 8) (v := (gI s515 4 (ix (a1 >>> ((1 : Int32) &&& 31))))) rfl rfl (by decide) h517.1 rfl ?_
        have h518 := h517.2
        refine wpc_sl (n := 3) (c' := 11) (pc' := 81) (ls' := [some (.ref 0), some (.int a1), some (.int (a1 >>> ((1 : Int32) &&& 31))), some (.int v513), some (.int v516), none]) (st' := [.int (((a1 >>> ((1 : Int32) &&& 31)) * (16 : Int32)) + ((gI s515 4 (ix (a1 >>> ((1 : Int32) &&& 31)))) &&& (15 : Int32))), .ref 3]) (s' := s515) rfl ?_
        refine wpc_ldaI (a := 2) (N := 128) (v := (gI s515 3 (ix (((a1 >>> ((1 : Int32) &&& 31)) * (16 : Int32)) + ((gI s515 4 (ix (a1 >>> ((1 : Int32) &&& 31)))) &&& (15 : Int32)))))) rfl rfl (by decide) h518.1 rfl ?_
        have h519 := h518.2
        refine wpc_sl (n := 7) (c' := 11) (pc' := 94) (ls' := [some (.ref 0), some (.int a1), some (.int (a1 >>> ((1 : Int32) &&& 31))), some (.int v513), some (.int v516), some (.int (gI s515 3 (ix (((a1 >>> ((1 : Int32) &&& 31)) * (16 : Int32)) + ((gI s515 4 (ix (a1 >>> ((1 : Int32) &&& 31)))) &&& (15 : Int32))))))]) (st' := [.int (a1 >>> ((1 : Int32) &&& 31)), .ref 4, .int (a1 >>> ((1 : Int32) &&& 31)), .ref 4]) (s' := s515) rfl ?_
        refine wpc_ldaI (a := 3) (N := 8) (v := (gI s515 4 (ix (a1 >>> ((1 : Int32) &&& 31))))) rfl rfl (by decide) h519.1 rfl ?_
        have h520 := h519.2
        refine wpc_sl (n := 4) (c' := 11) (pc' := 100) (ls' := [some (.ref 0), some (.int a1), some (.int (a1 >>> ((1 : Int32) &&& 31))), some (.int v513), some (.int v516), some (.int (gI s515 3 (ix (((a1 >>> ((1 : Int32) &&& 31)) * (16 : Int32)) + ((gI s515 4 (ix (a1 >>> ((1 : Int32) &&& 31)))) &&& (15 : Int32))))))]) (st' := [.int (((gI s515 4 (ix (a1 >>> ((1 : Int32) &&& 31)))) + (1 : Int32)) &&& (15 : Int32)), .int (a1 >>> ((1 : Int32) &&& 31)), .ref 4]) (s' := s515) rfl ?_
        refine wpc_staI (a := 3) (N := 8) (s' := (sI s515 4 (ix (a1 >>> ((1 : Int32) &&& 31))) (((gI s515 4 (ix (a1 >>> ((1 : Int32) &&& 31)))) + (1 : Int32)) &&& (15 : Int32)))) rfl rfl (by decide) h520.1 rfl ?_
        have h521 := h520.2
        refine wpc_sl (n := 6) (c' := 11) (pc' := 111) (ls' := [some (.ref 0), some (.int a1), some (.int (a1 >>> ((1 : Int32) &&& 31))), some (.int v513), some (.int v516), some (.int (gI s515 3 (ix (((a1 >>> ((1 : Int32) &&& 31)) * (16 : Int32)) + ((gI s515 4 (ix (a1 >>> ((1 : Int32) &&& 31)))) &&& (15 : Int32))))))]) (st' := [.int (a1 >>> ((1 : Int32) &&& 31)), .ref 5, .int (a1 >>> ((1 : Int32) &&& 31)), .ref 5]) (s' := (sI s515 4 (ix (a1 >>> ((1 : Int32) &&& 31))) (((gI s515 4 (ix (a1 >>> ((1 : Int32) &&& 31)))) + (1 : Int32)) &&& (15 : Int32)))) rfl ?_
        refine wpc_ldaI (a := 4) (N := 8) (v := (gI s515 5 (ix (a1 >>> ((1 : Int32) &&& 31))))) rfl rfl (by decide) h521.1 rfl ?_
        have h522 := h521.2
        refine wpc_sl (n := 2) (c' := 11) (pc' := 114) (ls' := [some (.ref 0), some (.int a1), some (.int (a1 >>> ((1 : Int32) &&& 31))), some (.int v513), some (.int v516), some (.int (gI s515 3 (ix (((a1 >>> ((1 : Int32) &&& 31)) * (16 : Int32)) + ((gI s515 4 (ix (a1 >>> ((1 : Int32) &&& 31)))) &&& (15 : Int32))))))]) (st' := [.int ((gI s515 5 (ix (a1 >>> ((1 : Int32) &&& 31)))) - (1 : Int32)), .int (a1 >>> ((1 : Int32) &&& 31)), .ref 5]) (s' := (sI s515 4 (ix (a1 >>> ((1 : Int32) &&& 31))) (((gI s515 4 (ix (a1 >>> ((1 : Int32) &&& 31)))) + (1 : Int32)) &&& (15 : Int32)))) rfl ?_
        refine wpc_staI (a := 4) (N := 8) (s' := (sI (sI s515 4 (ix (a1 >>> ((1 : Int32) &&& 31))) (((gI s515 4 (ix (a1 >>> ((1 : Int32) &&& 31)))) + (1 : Int32)) &&& (15 : Int32))) 5 (ix (a1 >>> ((1 : Int32) &&& 31))) ((gI s515 5 (ix (a1 >>> ((1 : Int32) &&& 31)))) - (1 : Int32)))) rfl rfl (by decide) h522.1 rfl ?_
        have h523 := h522.2
        refine wpc_sl (n := 5) (c' := 11) (pc' := 120) (ls' := [some (.ref 0), some (.int a1), some (.int (a1 >>> ((1 : Int32) &&& 31))), some (.int v513), some (.int v516), some (.int (gI s515 3 (ix (((a1 >>> ((1 : Int32) &&& 31)) * (16 : Int32)) + ((gI s515 4 (ix (a1 >>> ((1 : Int32) &&& 31)))) &&& (15 : Int32))))))]) (st' := [.int v513, .int ((2 : Int32) * (a1 >>> ((1 : Int32) &&& 31))), .ref 0]) (s' := (sI (sI s515 4 (ix (a1 >>> ((1 : Int32) &&& 31))) (((gI s515 4 (ix (a1 >>> ((1 : Int32) &&& 31)))) + (1 : Int32)) &&& (15 : Int32))) 5 (ix (a1 >>> ((1 : Int32) &&& 31))) ((gI s515 5 (ix (a1 >>> ((1 : Int32) &&& 31)))) - (1 : Int32)))) rfl ?_
        refine wpc_callV (m' := 13) (me' := cm13) (as := [.int ((2 : Int32) * (a1 >>> ((1 : Int32) &&& 31))), .int v513]) (r := []) rfl rfl rfl rfl rfl ⟨by decide, (by first | decide | exact Nat.le_of_ble_eq_true rfl), (by first | decide | exact Nat.le_of_ble_eq_true rfl), rfl⟩ (calV.mono h523 fun s524 h526 => ?_)
        refine wpc_sl (n := 7) (c' := 11) (pc' := 131) (ls' := [some (.ref 0), some (.int a1), some (.int (a1 >>> ((1 : Int32) &&& 31))), some (.int v513), some (.int v516), some (.int (gI s515 3 (ix (((a1 >>> ((1 : Int32) &&& 31)) * (16 : Int32)) + ((gI s515 4 (ix (a1 >>> ((1 : Int32) &&& 31)))) &&& (15 : Int32))))))]) (st' := [.int v516, .int (((2 : Int32) * (a1 >>> ((1 : Int32) &&& 31))) + (1 : Int32)), .ref 0]) (s' := s524) rfl ?_
        refine wpc_callV (m' := 13) (me' := cm13) (as := [.int (((2 : Int32) * (a1 >>> ((1 : Int32) &&& 31))) + (1 : Int32)), .int v516]) (r := []) rfl rfl rfl rfl rfl ⟨by decide, (by first | decide | exact Nat.le_of_ble_eq_true rfl), (by first | decide | exact Nat.le_of_ble_eq_true rfl), rfl⟩ (calV.mono h526 fun s527 h529 => ?_)
        refine wpc_sl (n := 1) (c' := 11) (pc' := 136) (ls' := [some (.ref 0), some (.int a1), some (.int (a1 >>> ((1 : Int32) &&& 31))), some (.int v513), some (.int v516), some (.int (gI s515 3 (ix (((a1 >>> ((1 : Int32) &&& 31)) * (16 : Int32)) + ((gI s515 4 (ix (a1 >>> ((1 : Int32) &&& 31)))) &&& (15 : Int32))))))]) (st' := [.int (gI s515 3 (ix (((a1 >>> ((1 : Int32) &&& 31)) * (16 : Int32)) + ((gI s515 4 (ix (a1 >>> ((1 : Int32) &&& 31)))) &&& (15 : Int32)))))]) (s' := s527) rfl ?_
        exact wpc_ret rfl rfl (fun q => absurd q (by decide)) rfl ⟨(gI s515 3 (ix (((a1 >>> ((1 : Int32) &&& 31)) * (16 : Int32)) + ((gI s515 4 (ix (a1 >>> ((1 : Int32) &&& 31)))) &&& (15 : Int32))))), rfl, h529⟩
    · have h503 := h500.2 hc501
      refine wpc_sl (n := 1) (c' := 11) (pc' := 15) (ls' := [some (.ref 0), some (.int a1), none, none, none, none]) (st' := [.int (-1 : Int32)]) (s' := s495) rfl ?_
      exact wpc_ret rfl rfl (fun q => absurd q (by decide)) rfl ⟨(-1 : Int32), rfl, h503⟩
theorem l0_in (a0 : Int32) (a1 : Int32) (a2 : Int32)  (Q : Int32 → Wd → Prop) (h : calV PP 0 0 [.ref 0, .int (1 : Int32), .int (4 : Int32), .int (1 : Int32)] s0 (fun s1 => calI PP 15 11 [.ref 0] s1 (fun v4 s3 => ((v4 = (0 : Int32)) → calI PP 19 11 [.ref 0, .int (0 : Int32), .int (0 : Int32), .int ((1 : Int32) ||| (16 : Int32))] s3 (fun v10 s9 => ((v10 = (0 : Int32)) → calI PP 19 11 [.ref 0, .int (0 : Int32), .int (1 : Int32), .int (2 : Int32)] s9 (fun v16 s15 => ((v16 = (0 : Int32)) → wplI PP QQ none 0 lm0 58 [some (.int a0), some (.int a1), some (.int a2), some (.ref 1), some (.int (1 : Int32)), some (.int (2 : Int32)), some (.int (0 : Int32)), none, none, none, none, none, none, none, none, none, none] [] (W1 s15) Q) ∧ (¬ (v16 = (0 : Int32)) → Q (0 : Int32) (W1 s15)))) ∧ (¬ (v10 = (0 : Int32)) → Q (0 : Int32) (W1 s9)))) ∧ (¬ (v4 = (0 : Int32)) → Q (0 : Int32) (W1 s3))))) : lalI PP QQ none 0 [.int a0, .int a1, .int a2] W0 Q := by
  refine lal_of (me := lm0) (ls := [some (.int a0), some (.int a1), some (.int a2), none, none, none, none, none, none, none, none, none, none, none, none, none, none]) rfl (Nat.le_of_ble_eq_true rfl) rfl ?_
  refine wpl_new0 rfl rfl (by decide) (by decide) ?_
  refine wpl_sl (n := 4) (pc' := 7) (ls' := [some (.int a0), some (.int a1), some (.int a2), none, none, none, none, none, none, none, none, none, none, none, none, none, none]) (st' := [.int (1 : Int32), .int (4 : Int32), .int (1 : Int32), .ref 1, .ref 1]) rfl ?_
  refine wpl_ctor0 (me' := cm0) (as := [.int (1 : Int32), .int (4 : Int32), .int (1 : Int32)]) (r := [.ref 1]) rfl rfl rfl rfl rfl ⟨by decide, by decide, rfl, by decide, by decide⟩ (calV.mono h fun s1 h2 => ?_)
  refine wpl_sl (n := 6) (pc' := 18) (ls' := [some (.int a0), some (.int a1), some (.int a2), some (.ref 1), some (.int (1 : Int32)), some (.int (2 : Int32)), none, none, none, none, none, none, none, none, none, none, none]) (st' := [.ref 1]) rfl ?_
  refine wpl_v1 (m' := 15) (me' := cm15) (as := []) (r := []) rfl rfl rfl rfl rfl ⟨by decide, (by first | decide | exact Nat.le_of_ble_eq_true rfl), (by first | decide | exact Nat.le_of_ble_eq_true rfl), rfl⟩ (cal_I (calI.mono h2 fun v4 s3 h5 => ?_))
  refine wpl_if (a := 26) (b := 24) rfl (by decide) rfl rfl (wpl_br (p := v4 = (0 : Int32)) ⟨fun hc6 => ?_, fun hc6 => ?_⟩)
  · have h7 := h5.1 hc6
    refine wpl_sl (n := 6) (pc' := 34) (ls' := [some (.int a0), some (.int a1), some (.int a2), some (.ref 1), some (.int (1 : Int32)), some (.int (2 : Int32)), none, none, none, none, none, none, none, none, none, none, none]) (st' := [.int ((1 : Int32) ||| (16 : Int32)), .int (0 : Int32), .int (0 : Int32), .ref 1]) rfl ?_
    refine wpl_v1 (m' := 19) (me' := cm19) (as := [.int (0 : Int32), .int (0 : Int32), .int ((1 : Int32) ||| (16 : Int32))]) (r := []) rfl rfl rfl rfl rfl ⟨by decide, (by first | decide | exact Nat.le_of_ble_eq_true rfl), (by first | decide | exact Nat.le_of_ble_eq_true rfl), rfl⟩ (cal_I (calI.mono h7 fun v10 s9 h11 => ?_))
    refine wpl_if (a := 42) (b := 40) rfl (by decide) rfl rfl (wpl_br (p := v10 = (0 : Int32)) ⟨fun hc12 => ?_, fun hc12 => ?_⟩)
    · have h13 := h11.1 hc12
      refine wpl_sl (n := 4) (pc' := 47) (ls' := [some (.int a0), some (.int a1), some (.int a2), some (.ref 1), some (.int (1 : Int32)), some (.int (2 : Int32)), none, none, none, none, none, none, none, none, none, none, none]) (st' := [.int (2 : Int32), .int (1 : Int32), .int (0 : Int32), .ref 1]) rfl ?_
      refine wpl_v1 (m' := 19) (me' := cm19) (as := [.int (0 : Int32), .int (1 : Int32), .int (2 : Int32)]) (r := []) rfl rfl rfl rfl rfl ⟨by decide, (by first | decide | exact Nat.le_of_ble_eq_true rfl), (by first | decide | exact Nat.le_of_ble_eq_true rfl), rfl⟩ (cal_I (calI.mono h13 fun v16 s15 h17 => ?_))
      refine wpl_if (a := 55) (b := 53) rfl (by decide) rfl rfl (wpl_br (p := v16 = (0 : Int32)) ⟨fun hc18 => ?_, fun hc18 => ?_⟩)
      · have h19 := h17.1 hc18
        refine wpl_sl (n := 2) (pc' := 58) (ls' := [some (.int a0), some (.int a1), some (.int a2), some (.ref 1), some (.int (1 : Int32)), some (.int (2 : Int32)), some (.int (0 : Int32)), none, none, none, none, none, none, none, none, none, none]) (st' := []) rfl ?_
        exact h19
      · have h20 := h17.2 hc18
        refine wpl_sl (n := 1) (pc' := 54) (ls' := [some (.int a0), some (.int a1), some (.int a2), some (.ref 1), some (.int (1 : Int32)), some (.int (2 : Int32)), none, none, none, none, none, none, none, none, none, none, none]) (st' := [.int (0 : Int32)]) rfl ?_
        exact wpl_ret rfl rfl rfl ⟨(0 : Int32), rfl, h20⟩
    · have h14 := h11.2 hc12
      refine wpl_sl (n := 1) (pc' := 41) (ls' := [some (.int a0), some (.int a1), some (.int a2), some (.ref 1), some (.int (1 : Int32)), some (.int (2 : Int32)), none, none, none, none, none, none, none, none, none, none, none]) (st' := [.int (0 : Int32)]) rfl ?_
      exact wpl_ret rfl rfl rfl ⟨(0 : Int32), rfl, h14⟩
  · have h8 := h5.2 hc6
    refine wpl_sl (n := 1) (pc' := 25) (ls' := [some (.int a0), some (.int a1), some (.int a2), some (.ref 1), some (.int (1 : Int32)), some (.int (2 : Int32)), none, none, none, none, none, none, none, none, none, none, none]) (st' := [.int (0 : Int32)]) rfl ?_
    exact wpl_ret rfl rfl rfl ⟨(0 : Int32), rfl, h8⟩
theorem l0_58 (x0 : Int32) (x1 : Int32) (x2 : Int32) (x4 : Int32) (x5 : Int32) (x6 : Int32)  (Q : Int32 → Wd → Prop) (h : ((x6 < (8 : Int32)) → ((x6 < x0) → calI PP 16 11 [.ref 0, .int (1 : Int32), .int (x1 + x6)] s (fun v28 s27 => ∀ m30, m30 = (if x6 < (4 : Int32) then (0 : Int32) else (-2 : Int32)) → (((v28 = m30) → wplI PP QQ none 0 lm0 101 [some (.int x0), some (.int x1), some (.int x2), some (.ref 1), some (.int x4), some (.int x5), some (.int x6), none, none, none, none, none, none, none, none, none, none] [] (W1 s27) Q) ∧ (¬ (v28 = m30) → Q (0 : Int32) (W1 s27))))) ∧ (¬ (x6 < x0) → wplI PP QQ none 0 lm0 101 [some (.int x0), some (.int x1), some (.int x2), some (.ref 1), some (.int x4), some (.int x5), some (.int x6), none, none, none, none, none, none, none, none, none, none] [] (W1 s) Q)) ∧ (¬ (x6 < (8 : Int32)) → ∀ m37, m37 = (if x0 < (0 : Int32) then (0 : Int32) else (if (4 : Int32) < x0 then (4 : Int32) else x0)) → (∀ m40, m40 = (if (0 : Int32) < m37 then (1 : Int32) else (0 : Int32)) → (∀ m43, m43 = (if m37 < (4 : Int32) then (1 : Int32) else (0 : Int32)) → (calI PP 22 11 [.ref 0, .int (0 : Int32), .int (16 : Int32)] s (fun v47 s46 => ((v47 = (m40 + m43)) → ∀ m52, m52 = (if (0 : Int32) < m37 then (0 : Int32) else (1 : Int32)) → (∀ m55, m55 = (if (0 : Int32) < m37 then x4 else x5) → (lalI PP QQ none 2 [.ref 1, .int (0 : Int32), .int m52, .int m55] (W1 s46) (fun v59 w58 => ∃ s61, w58 = W1 s61 ∧ (((v59 = (0 : Int32)) → Q (0 : Int32) (W1 s61)) ∧ (¬ (v59 = (0 : Int32)) → ∀ m65, m65 = (if (0 : Int32) < m37 then (if m37 < (4 : Int32) then (1 : Int32) else (0 : Int32)) else (0 : Int32)) → (∀ m68, m68 = (if m65 = (0 : Int32) then (-1 : Int32) else (1 : Int32)) → (∀ m71, m71 = (if m65 = (0 : Int32) then (0 : Int32) else x5) → (lalI PP QQ none 2 [.ref 1, .int (1 : Int32), .int m68, .int m71] (W1 s61) (fun v75 w74 => ∃ s77, w74 = W1 s77 ∧ (((v75 = (0 : Int32)) → Q (0 : Int32) (W1 s77)) ∧ (¬ (v75 = (0 : Int32)) → ∀ m81, m81 = (if m37 < (4 : Int32) then (1 : Int32) else (0 : Int32)) → (calI PP 22 11 [.ref 0, .int (0 : Int32), .int (16 : Int32)] s77 (fun v85 s84 => ∀ m87, m87 = (if m81 = (0 : Int32) then (0 : Int32) else (1 : Int32)) → (((v85 = m87) → ∀ m93, m93 = (if m81 = (0 : Int32) then (-1 : Int32) else (1 : Int32)) → (∀ m96, m96 = (if m81 = (0 : Int32) then (0 : Int32) else x5) → (lalI PP QQ none 2 [.ref 1, .int (0 : Int32), .int m93, .int m96] (W1 s84) (fun v100 w99 => ∃ s102, w99 = W1 s102 ∧ (((v100 = (0 : Int32)) → Q (0 : Int32) (W1 s102)) ∧ (¬ (v100 = (0 : Int32)) → calI PP 17 11 [.ref 0, .int (0 : Int32)] s102 (fun v107 s106 => ∀ m109, m109 = (if (0 : Int32) < m37 then (x1 &&& (255 : Int32)) else (-2 : Int32)) → (((v107 = m109) → ∀ m115, m115 = (if (0 : Int32) < m37 then (m37 - (1 : Int32)) else (0 : Int32)) → (calI PP 22 11 [.ref 0, .int (0 : Int32), .int (16 : Int32)] s106 (fun v119 s118 => ((v119 = (1 : Int32)) → lalI PP QQ none 2 [.ref 1, .int (0 : Int32), .int (1 : Int32), .int x5] (W1 s118) (fun v125 w124 => ∃ s127, w124 = W1 s127 ∧ (((v125 = (0 : Int32)) → Q (0 : Int32) (W1 s127)) ∧ (¬ (v125 = (0 : Int32)) → calI PP 16 11 [.ref 0, .int (1 : Int32), .int x2] s127 (fun v132 s131 => ((v132 = (0 : Int32)) → ∀ m137, m137 = (if m115 = (0 : Int32) then (1 : Int32) else (0 : Int32)) → (∀ m140, m140 = (if (m115 + (1 : Int32)) < (4 : Int32) then (1 : Int32) else (0 : Int32)) → (∀ m143, m143 = (if m137 = (0 : Int32) then (0 : Int32) else (1 : Int32)) → (∀ m146, m146 = (if m140 = (0 : Int32) then (0 : Int32) else (1 : Int32)) → (calI PP 22 11 [.ref 0, .int (0 : Int32), .int (16 : Int32)] s131 (fun v150 s149 => ((v150 = (m143 + m146)) → ∀ m155, m155 = (if m137 = (0 : Int32) then (if m140 = (0 : Int32) then (-1 : Int32) else (1 : Int32)) else (0 : Int32)) → (∀ m158, m158 = (if m137 = (0 : Int32) then (if m140 = (0 : Int32) then (0 : Int32) else x5) else x4) → (lalI PP QQ none 2 [.ref 1, .int (0 : Int32), .int m155, .int m158] (W1 s149) (fun v162 w161 => ∃ s164, w161 = W1 s164 ∧ (((v162 = (0 : Int32)) → Q (0 : Int32) (W1 s164)) ∧ (¬ (v162 = (0 : Int32)) → ∀ m168, m168 = (if m137 = (0 : Int32) then (0 : Int32) else (if m140 = (0 : Int32) then (0 : Int32) else (1 : Int32))) → (∀ m171, m171 = (if m168 = (0 : Int32) then (-1 : Int32) else (1 : Int32)) → (∀ m174, m174 = (if m168 = (0 : Int32) then (0 : Int32) else x5) → (lalI PP QQ none 2 [.ref 1, .int (1 : Int32), .int m171, .int m174] (W1 s164) (fun v178 w177 => ∃ s180, w177 = W1 s180 ∧ (Q (v178 &&& 1) (W1 s180)))))))))))) ∧ (¬ (v150 = (m143 + m146)) → Q (0 : Int32) (W1 s149)))))))) ∧ (¬ (v132 = (0 : Int32)) → Q (0 : Int32) (W1 s131))))))) ∧ (¬ (v119 = (1 : Int32)) → Q (0 : Int32) (W1 s118))))) ∧ (¬ (v107 = m109) → Q (0 : Int32) (W1 s106)))))))))) ∧ (¬ (v85 = m87) → Q (0 : Int32) (W1 s84))))))))))))))))) ∧ (¬ (v47 = (m40 + m43)) → Q (0 : Int32) (W1 s46)))))))) : wplI PP QQ none 0 lm0 58 [some (.int x0), some (.int x1), some (.int x2), some (.ref 1), some (.int x4), some (.int x5), some (.int x6), none, none, none, none, none, none, none, none, none, none] [] (W1 s) Q := by
  refine wpl_sl (n := 2) (pc' := 62) (ls' := [some (.int x0), some (.int x1), some (.int x2), some (.ref 1), some (.int x4), some (.int x5), some (.int x6), none, none, none, none, none, none, none, none, none, none]) (st' := [.int (8 : Int32), .int x6]) rfl ?_
  refine wpl_icmp (a := 107) (b := 65) rfl (by decide) rfl rfl (wpl_br (p := x6 < (8 : Int32)) ⟨fun hc21 => ?_, fun hc21 => ?_⟩)
  · have h22 := h.1 hc21
    refine wpl_sl (n := 2) (pc' := 68) (ls' := [some (.int x0), some (.int x1), some (.int x2), some (.ref 1), some (.int x4), some (.int x5), some (.int x6), none, none, none, none, none, none, none, none, none, none]) (st' := [.int x0, .int x6]) rfl ?_
    refine wpl_icmp (a := 101) (b := 71) rfl (by decide) rfl rfl (wpl_br (p := x6 < x0) ⟨fun hc24 => ?_, fun hc24 => ?_⟩)
    · have h25 := h22.1 hc24
      refine wpl_sl (n := 5) (pc' := 77) (ls' := [some (.int x0), some (.int x1), some (.int x2), some (.ref 1), some (.int x4), some (.int x5), some (.int x6), none, none, none, none, none, none, none, none, none, none]) (st' := [.int (x1 + x6), .int (1 : Int32), .ref 1]) rfl ?_
      refine wpl_v1 (m' := 16) (me' := cm16) (as := [.int (1 : Int32), .int (x1 + x6)]) (r := []) rfl rfl rfl rfl rfl ⟨by decide, (by first | decide | exact Nat.le_of_ble_eq_true rfl), (by first | decide | exact Nat.le_of_ble_eq_true rfl), rfl⟩ (cal_I (calI.mono h25 fun v28 s27 h29 => ?_))
      refine wpl_sl (n := 4) (pc' := 87) (ls' := [some (.int x0), some (.int x1), some (.int x2), some (.ref 1), some (.int x4), some (.int x5), some (.int x6), some (.int v28), none, none, none, none, none, none, none, none, none]) (st' := [.int (4 : Int32), .int x6, .int v28]) rfl ?_
      have hm31 : ∀ m30, m30 = (if x6 < (4 : Int32) then (0 : Int32) else (-2 : Int32)) → wplI PP QQ none 0 lm0 96 [some (.int x0), some (.int x1), some (.int x2), some (.ref 1), some (.int x4), some (.int x5), some (.int x6), some (.int v28), none, none, none, none, none, none, none, none, none] [.int m30, .int v28] (W1 s27) Q := by
        intro m30 em30
        have h32 := h29 m30 em30
        refine wpl_icmp (a := 101) (b := 99) rfl (by decide) rfl rfl (wpl_br (p := v28 = m30) ⟨fun hc33 => ?_, fun hc33 => ?_⟩)
        · have h34 := h32.1 hc33
          exact wpl_lle (ls := [some (.int x0), some (.int x1), some (.int x2), some (.ref 1), some (.int x4), some (.int x5), some (.int x6), none, none, none, none, none, none, none, none, none, none]) ⟨rfl, rfl, rfl, rfl, rfl, rfl, rfl, trivial⟩ h34
        · have h35 := h32.2 hc33
          refine wpl_sl (n := 1) (pc' := 100) (ls' := [some (.int x0), some (.int x1), some (.int x2), some (.ref 1), some (.int x4), some (.int x5), some (.int x6), some (.int v28), none, none, none, none, none, none, none, none, none]) (st' := [.int (0 : Int32)]) rfl ?_
          exact wpl_ret rfl rfl rfl ⟨(0 : Int32), rfl, h35⟩
      refine wpl_icmp (a := 94) (b := 90) rfl (by decide) rfl rfl (wpl_br (p := x6 < (4 : Int32)) ⟨fun hc36 => ?_, fun hc36 => ?_⟩)
      · refine wpl_sl (n := 2) (pc' := 96) (ls' := [some (.int x0), some (.int x1), some (.int x2), some (.ref 1), some (.int x4), some (.int x5), some (.int x6), some (.int v28), none, none, none, none, none, none, none, none, none]) (st' := [.int (0 : Int32), .int v28]) rfl ?_
        first | exact hm31 _ (by simp only [if_pos hc36]) | exact wpl_lle (by repeat (first | exact trivial | refine ⟨rfl, ?_⟩)) (hm31 _ (by simp only [if_pos hc36]))
      · refine wpl_sl (n := 1) (pc' := 96) (ls' := [some (.int x0), some (.int x1), some (.int x2), some (.ref 1), some (.int x4), some (.int x5), some (.int x6), some (.int v28), none, none, none, none, none, none, none, none, none]) (st' := [.int (-2 : Int32), .int v28]) rfl ?_
        first | exact hm31 _ (by simp only [if_neg hc36]) | exact wpl_lle (by repeat (first | exact trivial | refine ⟨rfl, ?_⟩)) (hm31 _ (by simp only [if_neg hc36]))
    · have h26 := h22.2 hc24
      exact h26
  · have h23 := h.2 hc21
    refine wpl_sl (n := 1) (pc' := 108) (ls' := [some (.int x0), some (.int x1), some (.int x2), some (.ref 1), some (.int x4), some (.int x5), some (.int x6), none, none, none, none, none, none, none, none, none, none]) (st' := [.int x0]) rfl ?_
    have hm38 : ∀ m37, m37 = (if x0 < (0 : Int32) then (0 : Int32) else (if (4 : Int32) < x0 then (4 : Int32) else x0)) → wplI PP QQ none 0 lm0 125 [some (.int x0), some (.int x1), some (.int x2), some (.ref 1), some (.int x4), some (.int x5), some (.int x6), none, none, none, none, none, none, none, none, none, none] [.int m37] (W1 s) Q := by
      intro m37 em37
      have h39 := h23 m37 em37
      refine wpl_sl (n := 2) (pc' := 129) (ls' := [some (.int x0), some (.int x1), some (.int x2), some (.ref 1), some (.int x4), some (.int x5), some (.int m37), none, none, none, none, none, none, none, none, none, none]) (st' := [.int m37]) rfl ?_
      have hm41 : ∀ m40, m40 = (if (0 : Int32) < m37 then (1 : Int32) else (0 : Int32)) → wplI PP QQ none 0 lm0 137 [some (.int x0), some (.int x1), some (.int x2), some (.ref 1), some (.int x4), some (.int x5), some (.int m37), none, none, none, none, none, none, none, none, none, none] [.int m40] (W1 s) Q := by
        intro m40 em40
        have h42 := h39 m40 em40
        refine wpl_sl (n := 2) (pc' := 140) (ls' := [some (.int x0), some (.int x1), some (.int x2), some (.ref 1), some (.int x4), some (.int x5), some (.int m37), none, none, none, none, none, none, none, none, none, none]) (st' := [.int (4 : Int32), .int m37, .int m40]) rfl ?_
        have hm44 : ∀ m43, m43 = (if m37 < (4 : Int32) then (1 : Int32) else (0 : Int32)) → wplI PP QQ none 0 lm0 148 [some (.int x0), some (.int x1), some (.int x2), some (.ref 1), some (.int x4), some (.int x5), some (.int m37), none, none, none, none, none, none, none, none, none, none] [.int m43, .int m40] (W1 s) Q := by
          intro m43 em43
          have h45 := h42 m43 em43
          refine wpl_sl (n := 5) (pc' := 155) (ls' := [some (.int x0), some (.int x1), some (.int x2), some (.ref 1), some (.int x4), some (.int x5), some (.int m37), some (.int (m40 + m43)), none, none, none, none, none, none, none, none, none]) (st' := [.int (16 : Int32), .int (0 : Int32), .ref 1]) rfl ?_
          refine wpl_v1 (m' := 22) (me' := cm22) (as := [.int (0 : Int32), .int (16 : Int32)]) (r := []) rfl rfl rfl rfl rfl ⟨by decide, (by first | decide | exact Nat.le_of_ble_eq_true rfl), (by first | decide | exact Nat.le_of_ble_eq_true rfl), rfl⟩ (cal_I (calI.mono h45 fun v47 s46 h48 => ?_))
          refine wpl_sl (n := 1) (pc' := 160) (ls' := [some (.int x0), some (.int x1), some (.int x2), some (.ref 1), some (.int x4), some (.int x5), some (.int m37), some (.int (m40 + m43)), none, none, none, none, none, none, none, none, none]) (st' := [.int (m40 + m43), .int v47]) rfl ?_
          refine wpl_icmp (a := 165) (b := 163) rfl (by decide) rfl rfl (wpl_br (p := v47 = (m40 + m43)) ⟨fun hc49 => ?_, fun hc49 => ?_⟩)
          · have h50 := h48.1 hc49
            refine wpl_sl (n := 3) (pc' := 169) (ls' := [some (.int x0), some (.int x1), some (.int x2), some (.ref 1), some (.int x4), some (.int x5), some (.int m37), some (.int (m40 + m43)), none, none, none, none, none, none, none, none, none]) (st' := [.int m37, .int (0 : Int32), .ref 1]) rfl ?_
            have hm53 : ∀ m52, m52 = (if (0 : Int32) < m37 then (0 : Int32) else (1 : Int32)) → wplI PP QQ none 0 lm0 177 [some (.int x0), some (.int x1), some (.int x2), some (.ref 1), some (.int x4), some (.int x5), some (.int m37), some (.int (m40 + m43)), none, none, none, none, none, none, none, none, none] [.int m52, .int (0 : Int32), .ref 1] (W1 s46) Q := by
              intro m52 em52
              have h54 := h50 m52 em52
              refine wpl_sl (n := 1) (pc' := 179) (ls' := [some (.int x0), some (.int x1), some (.int x2), some (.ref 1), some (.int x4), some (.int x5), some (.int m37), some (.int (m40 + m43)), none, none, none, none, none, none, none, none, none]) (st' := [.int m37, .int m52, .int (0 : Int32), .ref 1]) rfl ?_
              have hm56 : ∀ m55, m55 = (if (0 : Int32) < m37 then x4 else x5) → wplI PP QQ none 0 lm0 189 [some (.int x0), some (.int x1), some (.int x2), some (.ref 1), some (.int x4), some (.int x5), some (.int m37), some (.int (m40 + m43)), none, none, none, none, none, none, none, none, none] [.int m55, .int m52, .int (0 : Int32), .ref 1] (W1 s46) Q := by
                intro m55 em55
                have h57 := h54 m55 em55
                refine wpl_stat (m' := 2) (me' := lm2) (as := [.ref 1, .int (0 : Int32), .int m52, .int m55]) (r := []) rfl rfl rfl rfl rfl ⟨(by first | decide | exact Nat.le_of_ble_eq_true rfl), (by first | decide | exact Nat.le_of_ble_eq_true rfl), (by first | decide | exact Nat.le_of_ble_eq_true rfl), (by first | decide | exact Nat.le_of_ble_eq_true rfl), rfl⟩ (lal_I (lalI.mono h57 fun v59 w58 hh => ?_))
                obtain ⟨s61, rfl, h60⟩ := hh
                refine wpl_if (a := 197) (b := 195) rfl (by decide) rfl rfl (wpl_br (p := v59 = (0 : Int32)) ⟨fun hc62 => ?_, fun hc62 => ?_⟩)
                · have h63 := h60.1 hc62
                  refine wpl_sl (n := 1) (pc' := 196) (ls' := [some (.int x0), some (.int x1), some (.int x2), some (.ref 1), some (.int x4), some (.int x5), some (.int m37), some (.int (m40 + m43)), none, none, none, none, none, none, none, none, none]) (st' := [.int (0 : Int32)]) rfl ?_
                  exact wpl_ret rfl rfl rfl ⟨(0 : Int32), rfl, h63⟩
                · have h64 := h60.2 hc62
                  refine wpl_sl (n := 1) (pc' := 199) (ls' := [some (.int x0), some (.int x1), some (.int x2), some (.ref 1), some (.int x4), some (.int x5), some (.int m37), some (.int (m40 + m43)), none, none, none, none, none, none, none, none, none]) (st' := [.int m37]) rfl ?_
                  have hm66 : ∀ m65, m65 = (if (0 : Int32) < m37 then (if m37 < (4 : Int32) then (1 : Int32) else (0 : Int32)) else (0 : Int32)) → wplI PP QQ none 0 lm0 213 [some (.int x0), some (.int x1), some (.int x2), some (.ref 1), some (.int x4), some (.int x5), some (.int m37), some (.int (m40 + m43)), none, none, none, none, none, none, none, none, none] [.int m65] (W1 s61) Q := by
                    intro m65 em65
                    have h67 := h64 m65 em65
                    refine wpl_sl (n := 4) (pc' := 219) (ls' := [some (.int x0), some (.int x1), some (.int x2), some (.ref 1), some (.int x4), some (.int x5), some (.int m37), some (.int (m40 + m43)), some (.int m65), none, none, none, none, none, none, none, none]) (st' := [.int m65, .int (1 : Int32), .ref 1]) rfl ?_
                    have hm69 : ∀ m68, m68 = (if m65 = (0 : Int32) then (-1 : Int32) else (1 : Int32)) → wplI PP QQ none 0 lm0 227 [some (.int x0), some (.int x1), some (.int x2), some (.ref 1), some (.int x4), some (.int x5), some (.int m37), some (.int (m40 + m43)), some (.int m65), none, none, none, none, none, none, none, none] [.int m68, .int (1 : Int32), .ref 1] (W1 s61) Q := by
                      intro m68 em68
                      have h70 := h67 m68 em68
                      refine wpl_sl (n := 1) (pc' := 229) (ls' := [some (.int x0), some (.int x1), some (.int x2), some (.ref 1), some (.int x4), some (.int x5), some (.int m37), some (.int (m40 + m43)), some (.int m65), none, none, none, none, none, none, none, none]) (st' := [.int m65, .int m68, .int (1 : Int32), .ref 1]) rfl ?_
                      have hm72 : ∀ m71, m71 = (if m65 = (0 : Int32) then (0 : Int32) else x5) → wplI PP QQ none 0 lm0 238 [some (.int x0), some (.int x1), some (.int x2), some (.ref 1), some (.int x4), some (.int x5), some (.int m37), some (.int (m40 + m43)), some (.int m65), none, none, none, none, none, none, none, none] [.int m71, .int m68, .int (1 : Int32), .ref 1] (W1 s61) Q := by
                        intro m71 em71
                        have h73 := h70 m71 em71
                        refine wpl_stat (m' := 2) (me' := lm2) (as := [.ref 1, .int (1 : Int32), .int m68, .int m71]) (r := []) rfl rfl rfl rfl rfl ⟨(by first | decide | exact Nat.le_of_ble_eq_true rfl), (by first | decide | exact Nat.le_of_ble_eq_true rfl), (by first | decide | exact Nat.le_of_ble_eq_true rfl), (by first | decide | exact Nat.le_of_ble_eq_true rfl), rfl⟩ (lal_I (lalI.mono h73 fun v75 w74 hh => ?_))
                        obtain ⟨s77, rfl, h76⟩ := hh
                        refine wpl_if (a := 246) (b := 244) rfl (by decide) rfl rfl (wpl_br (p := v75 = (0 : Int32)) ⟨fun hc78 => ?_, fun hc78 => ?_⟩)
                        · have h79 := h76.1 hc78
                          refine wpl_sl (n := 1) (pc' := 245) (ls' := [some (.int x0), some (.int x1), some (.int x2), some (.ref 1), some (.int x4), some (.int x5), some (.int m37), some (.int (m40 + m43)), some (.int m65), none, none, none, none, none, none, none, none]) (st' := [.int (0 : Int32)]) rfl ?_
                          exact wpl_ret rfl rfl rfl ⟨(0 : Int32), rfl, h79⟩
                        · have h80 := h76.2 hc78
                          refine wpl_sl (n := 2) (pc' := 249) (ls' := [some (.int x0), some (.int x1), some (.int x2), some (.ref 1), some (.int x4), some (.int x5), some (.int m37), some (.int (m40 + m43)), some (.int m65), none, none, none, none, none, none, none, none]) (st' := [.int (4 : Int32), .int m37]) rfl ?_
                          have hm82 : ∀ m81, m81 = (if m37 < (4 : Int32) then (1 : Int32) else (0 : Int32)) → wplI PP QQ none 0 lm0 257 [some (.int x0), some (.int x1), some (.int x2), some (.ref 1), some (.int x4), some (.int x5), some (.int m37), some (.int (m40 + m43)), some (.int m65), none, none, none, none, none, none, none, none] [.int m81] (W1 s77) Q := by
                            intro m81 em81
                            have h83 := h80 m81 em81
                            refine wpl_sl (n := 4) (pc' := 263) (ls' := [some (.int x0), some (.int x1), some (.int x2), some (.ref 1), some (.int x4), some (.int x5), some (.int m37), some (.int (m40 + m43)), some (.int m65), some (.int m81), none, none, none, none, none, none, none]) (st' := [.int (16 : Int32), .int (0 : Int32), .ref 1]) rfl ?_
                            refine wpl_v1 (m' := 22) (me' := cm22) (as := [.int (0 : Int32), .int (16 : Int32)]) (r := []) rfl rfl rfl rfl rfl ⟨by decide, (by first | decide | exact Nat.le_of_ble_eq_true rfl), (by first | decide | exact Nat.le_of_ble_eq_true rfl), rfl⟩ (cal_I (calI.mono h83 fun v85 s84 h86 => ?_))
                            refine wpl_sl (n := 1) (pc' := 268) (ls' := [some (.int x0), some (.int x1), some (.int x2), some (.ref 1), some (.int x4), some (.int x5), some (.int m37), some (.int (m40 + m43)), some (.int m65), some (.int m81), none, none, none, none, none, none, none]) (st' := [.int m81, .int v85]) rfl ?_
                            have hm88 : ∀ m87, m87 = (if m81 = (0 : Int32) then (0 : Int32) else (1 : Int32)) → wplI PP QQ none 0 lm0 276 [some (.int x0), some (.int x1), some (.int x2), some (.ref 1), some (.int x4), some (.int x5), some (.int m37), some (.int (m40 + m43)), some (.int m65), some (.int m81), none, none, none, none, none, none, none] [.int m87, .int v85] (W1 s84) Q := by
                              intro m87 em87
                              have h89 := h86 m87 em87
                              refine wpl_icmp (a := 281) (b := 279) rfl (by decide) rfl rfl (wpl_br (p := v85 = m87) ⟨fun hc90 => ?_, fun hc90 => ?_⟩)
                              · have h91 := h89.1 hc90
                                refine wpl_sl (n := 3) (pc' := 285) (ls' := [some (.int x0), some (.int x1), some (.int x2), some (.ref 1), some (.int x4), some (.int x5), some (.int m37), some (.int (m40 + m43)), some (.int m65), some (.int m81), none, none, none, none, none, none, none]) (st' := [.int m81, .int (0 : Int32), .ref 1]) rfl ?_
                                have hm94 : ∀ m93, m93 = (if m81 = (0 : Int32) then (-1 : Int32) else (1 : Int32)) → wplI PP QQ none 0 lm0 293 [some (.int x0), some (.int x1), some (.int x2), some (.ref 1), some (.int x4), some (.int x5), some (.int m37), some (.int (m40 + m43)), some (.int m65), some (.int m81), none, none, none, none, none, none, none] [.int m93, .int (0 : Int32), .ref 1] (W1 s84) Q := by
                                  intro m93 em93
                                  have h95 := h91 m93 em93
                                  refine wpl_sl (n := 1) (pc' := 295) (ls' := [some (.int x0), some (.int x1), some (.int x2), some (.ref 1), some (.int x4), some (.int x5), some (.int m37), some (.int (m40 + m43)), some (.int m65), some (.int m81), none, none, none, none, none, none, none]) (st' := [.int m81, .int m93, .int (0 : Int32), .ref 1]) rfl ?_
                                  have hm97 : ∀ m96, m96 = (if m81 = (0 : Int32) then (0 : Int32) else x5) → wplI PP QQ none 0 lm0 304 [some (.int x0), some (.int x1), some (.int x2), some (.ref 1), some (.int x4), some (.int x5), some (.int m37), some (.int (m40 + m43)), some (.int m65), some (.int m81), none, none, none, none, none, none, none] [.int m96, .int m93, .int (0 : Int32), .ref 1] (W1 s84) Q := by
                                    intro m96 em96
                                    have h98 := h95 m96 em96
                                    refine wpl_stat (m' := 2) (me' := lm2) (as := [.ref 1, .int (0 : Int32), .int m93, .int m96]) (r := []) rfl rfl rfl rfl rfl ⟨(by first | decide | exact Nat.le_of_ble_eq_true rfl), (by first | decide | exact Nat.le_of_ble_eq_true rfl), (by first | decide | exact Nat.le_of_ble_eq_true rfl), (by first | decide | exact Nat.le_of_ble_eq_true rfl), rfl⟩ (lal_I (lalI.mono h98 fun v100 w99 hh => ?_))
                                    obtain ⟨s102, rfl, h101⟩ := hh
                                    refine wpl_if (a := 312) (b := 310) rfl (by decide) rfl rfl (wpl_br (p := v100 = (0 : Int32)) ⟨fun hc103 => ?_, fun hc103 => ?_⟩)
                                    · have h104 := h101.1 hc103
                                      refine wpl_sl (n := 1) (pc' := 311) (ls' := [some (.int x0), some (.int x1), some (.int x2), some (.ref 1), some (.int x4), some (.int x5), some (.int m37), some (.int (m40 + m43)), some (.int m65), some (.int m81), none, none, none, none, none, none, none]) (st' := [.int (0 : Int32)]) rfl ?_
                                      exact wpl_ret rfl rfl rfl ⟨(0 : Int32), rfl, h104⟩
                                    · have h105 := h101.2 hc103
                                      refine wpl_sl (n := 2) (pc' := 314) (ls' := [some (.int x0), some (.int x1), some (.int x2), some (.ref 1), some (.int x4), some (.int x5), some (.int m37), some (.int (m40 + m43)), some (.int m65), some (.int m81), none, none, none, none, none, none, none]) (st' := [.int (0 : Int32), .ref 1]) rfl ?_
                                      refine wpl_v1 (m' := 17) (me' := cm17) (as := [.int (0 : Int32)]) (r := []) rfl rfl rfl rfl rfl ⟨by decide, (by first | decide | exact Nat.le_of_ble_eq_true rfl), (by first | decide | exact Nat.le_of_ble_eq_true rfl), rfl⟩ (cal_I (calI.mono h105 fun v107 s106 h108 => ?_))
                                      refine wpl_sl (n := 3) (pc' := 323) (ls' := [some (.int x0), some (.int x1), some (.int x2), some (.ref 1), some (.int x4), some (.int x5), some (.int m37), some (.int (m40 + m43)), some (.int m65), some (.int m81), some (.int v107), none, none, none, none, none, none]) (st' := [.int m37, .int v107]) rfl ?_
                                      have hm110 : ∀ m109, m109 = (if (0 : Int32) < m37 then (x1 &&& (255 : Int32)) else (-2 : Int32)) → wplI PP QQ none 0 lm0 336 [some (.int x0), some (.int x1), some (.int x2), some (.ref 1), some (.int x4), some (.int x5), some (.int m37), some (.int (m40 + m43)), some (.int m65), some (.int m81), some (.int v107), none, none, none, none, none, none] [.int m109, .int v107] (W1 s106) Q := by
                                        intro m109 em109
                                        have h111 := h108 m109 em109
                                        refine wpl_icmp (a := 341) (b := 339) rfl (by decide) rfl rfl (wpl_br (p := v107 = m109) ⟨fun hc112 => ?_, fun hc112 => ?_⟩)
                                        · have h113 := h111.1 hc112
                                          refine wpl_sl (n := 1) (pc' := 343) (ls' := [some (.int x0), some (.int x1), some (.int x2), some (.ref 1), some (.int x4), some (.int x5), some (.int m37), some (.int (m40 + m43)), some (.int m65), some (.int m81), some (.int v107), none, none, none, none, none, none]) (st' := [.int m37]) rfl ?_
                                          have hm116 : ∀ m115, m115 = (if (0 : Int32) < m37 then (m37 - (1 : Int32)) else (0 : Int32)) → wplI PP QQ none 0 lm0 354 [some (.int x0), some (.int x1), some (.int x2), some (.ref 1), some (.int x4), some (.int x5), some (.int m37), some (.int (m40 + m43)), some (.int m65), some (.int m81), some (.int v107), none, none, none, none, none, none] [.int m115] (W1 s106) Q := by
                                            intro m115 em115
                                            have h117 := h113 m115 em115
                                            refine wpl_sl (n := 4) (pc' := 360) (ls' := [some (.int x0), some (.int x1), some (.int x2), some (.ref 1), some (.int x4), some (.int x5), some (.int m37), some (.int (m40 + m43)), some (.int m65), some (.int m81), some (.int v107), some (.int m115), none, none, none, none, none]) (st' := [.int (16 : Int32), .int (0 : Int32), .ref 1]) rfl ?_
                                            refine wpl_v1 (m' := 22) (me' := cm22) (as := [.int (0 : Int32), .int (16 : Int32)]) (r := []) rfl rfl rfl rfl rfl ⟨by decide, (by first | decide | exact Nat.le_of_ble_eq_true rfl), (by first | decide | exact Nat.le_of_ble_eq_true rfl), rfl⟩ (cal_I (calI.mono h117 fun v119 s118 h120 => ?_))
                                            refine wpl_sl (n := 1) (pc' := 364) (ls' := [some (.int x0), some (.int x1), some (.int x2), some (.ref 1), some (.int x4), some (.int x5), some (.int m37), some (.int (m40 + m43)), some (.int m65), some (.int m81), some (.int v107), some (.int m115), none, none, none, none, none]) (st' := [.int (1 : Int32), .int v119]) rfl ?_
                                            refine wpl_icmp (a := 369) (b := 367) rfl (by decide) rfl rfl (wpl_br (p := v119 = (1 : Int32)) ⟨fun hc121 => ?_, fun hc121 => ?_⟩)
                                            · have h122 := h120.1 hc121
                                              refine wpl_sl (n := 4) (pc' := 374) (ls' := [some (.int x0), some (.int x1), some (.int x2), some (.ref 1), some (.int x4), some (.int x5), some (.int m37), some (.int (m40 + m43)), some (.int m65), some (.int m81), some (.int v107), some (.int m115), none, none, none, none, none]) (st' := [.int x5, .int (1 : Int32), .int (0 : Int32), .ref 1]) rfl ?_
                                              refine wpl_stat (m' := 2) (me' := lm2) (as := [.ref 1, .int (0 : Int32), .int (1 : Int32), .int x5]) (r := []) rfl rfl rfl rfl rfl ⟨(by first | decide | exact Nat.le_of_ble_eq_true rfl), (by first | decide | exact Nat.le_of_ble_eq_true rfl), (by first | decide | exact Nat.le_of_ble_eq_true rfl), (by first | decide | exact Nat.le_of_ble_eq_true rfl), rfl⟩ (lal_I (lalI.mono h122 fun v125 w124 hh => ?_))
                                              obtain ⟨s127, rfl, h126⟩ := hh
                                              refine wpl_if (a := 382) (b := 380) rfl (by decide) rfl rfl (wpl_br (p := v125 = (0 : Int32)) ⟨fun hc128 => ?_, fun hc128 => ?_⟩)
                                              · have h129 := h126.1 hc128
                                                refine wpl_sl (n := 1) (pc' := 381) (ls' := [some (.int x0), some (.int x1), some (.int x2), some (.ref 1), some (.int x4), some (.int x5), some (.int m37), some (.int (m40 + m43)), some (.int m65), some (.int m81), some (.int v107), some (.int m115), none, none, none, none, none]) (st' := [.int (0 : Int32)]) rfl ?_
                                                exact wpl_ret rfl rfl rfl ⟨(0 : Int32), rfl, h129⟩
                                              · have h130 := h126.2 hc128
                                                refine wpl_sl (n := 3) (pc' := 385) (ls' := [some (.int x0), some (.int x1), some (.int x2), some (.ref 1), some (.int x4), some (.int x5), some (.int m37), some (.int (m40 + m43)), some (.int m65), some (.int m81), some (.int v107), some (.int m115), none, none, none, none, none]) (st' := [.int x2, .int (1 : Int32), .ref 1]) rfl ?_
                                                refine wpl_v1 (m' := 16) (me' := cm16) (as := [.int (1 : Int32), .int x2]) (r := []) rfl rfl rfl rfl rfl ⟨by decide, (by first | decide | exact Nat.le_of_ble_eq_true rfl), (by first | decide | exact Nat.le_of_ble_eq_true rfl), rfl⟩ (cal_I (calI.mono h130 fun v132 s131 h133 => ?_))
                                                refine wpl_if (a := 393) (b := 391) rfl (by decide) rfl rfl (wpl_br (p := v132 = (0 : Int32)) ⟨fun hc134 => ?_, fun hc134 => ?_⟩)
                                                · have h135 := h133.1 hc134
                                                  refine wpl_sl (n := 5) (pc' := 401) (ls' := [some (.int x0), some (.int x1), some (.int x2), some (.ref 1), some (.int x4), some (.int x5), some (.int m37), some (.int (m40 + m43)), some (.int m65), some (.int m81), some (.int v107), some (.int m115), some (.int (m115 + (1 : Int32))), none, none, none, none]) (st' := [.int m115]) rfl ?_
                                                  have hm138 : ∀ m137, m137 = (if m115 = (0 : Int32) then (1 : Int32) else (0 : Int32)) → wplI PP QQ none 0 lm0 409 [some (.int x0), some (.int x1), some (.int x2), some (.ref 1), some (.int x4), some (.int x5), some (.int m37), some (.int (m40 + m43)), some (.int m65), some (.int m81), some (.int v107), some (.int m115), some (.int (m115 + (1 : Int32))), none, none, none, none] [.int m137] (W1 s131) Q := by
                                                    intro m137 em137
                                                    have h139 := h135 m137 em137
                                                    refine wpl_sl (n := 3) (pc' := 414) (ls' := [some (.int x0), some (.int x1), some (.int x2), some (.ref 1), some (.int x4), some (.int x5), some (.int m37), some (.int (m40 + m43)), some (.int m65), some (.int m81), some (.int v107), some (.int m115), some (.int (m115 + (1 : Int32))), some (.int m137), none, none, none]) (st' := [.int (4 : Int32), .int (m115 + (1 : Int32))]) rfl ?_
                                                    have hm141 : ∀ m140, m140 = (if (m115 + (1 : Int32)) < (4 : Int32) then (1 : Int32) else (0 : Int32)) → wplI PP QQ none 0 lm0 422 [some (.int x0), some (.int x1), some (.int x2), some (.ref 1), some (.int x4), some (.int x5), some (.int m37), some (.int (m40 + m43)), some (.int m65), some (.int m81), some (.int v107), some (.int m115), some (.int (m115 + (1 : Int32))), some (.int m137), none, none, none] [.int m140] (W1 s131) Q := by
                                                      intro m140 em140
                                                      have h142 := h139 m140 em140
                                                      refine wpl_sl (n := 2) (pc' := 426) (ls' := [some (.int x0), some (.int x1), some (.int x2), some (.ref 1), some (.int x4), some (.int x5), some (.int m37), some (.int (m40 + m43)), some (.int m65), some (.int m81), some (.int v107), some (.int m115), some (.int (m115 + (1 : Int32))), some (.int m137), some (.int m140), none, none]) (st' := [.int m137]) rfl ?_
                                                      have hm144 : ∀ m143, m143 = (if m137 = (0 : Int32) then (0 : Int32) else (1 : Int32)) → wplI PP QQ none 0 lm0 434 [some (.int x0), some (.int x1), some (.int x2), some (.ref 1), some (.int x4), some (.int x5), some (.int m37), some (.int (m40 + m43)), some (.int m65), some (.int m81), some (.int v107), some (.int m115), some (.int (m115 + (1 : Int32))), some (.int m137), some (.int m140), none, none] [.int m143] (W1 s131) Q := by
                                                        intro m143 em143
                                                        have h145 := h142 m143 em143
                                                        refine wpl_sl (n := 1) (pc' := 436) (ls' := [some (.int x0), some (.int x1), some (.int x2), some (.ref 1), some (.int x4), some (.int x5), some (.int m37), some (.int (m40 + m43)), some (.int m65), some (.int m81), some (.int v107), some (.int m115), some (.int (m115 + (1 : Int32))), some (.int m137), some (.int m140), none, none]) (st' := [.int m140, .int m143]) rfl ?_
                                                        have hm147 : ∀ m146, m146 = (if m140 = (0 : Int32) then (0 : Int32) else (1 : Int32)) → wplI PP QQ none 0 lm0 444 [some (.int x0), some (.int x1), some (.int x2), some (.ref 1), some (.int x4), some (.int x5), some (.int m37), some (.int (m40 + m43)), some (.int m65), some (.int m81), some (.int v107), some (.int m115), some (.int (m115 + (1 : Int32))), some (.int m137), some (.int m140), none, none] [.int m146, .int m143] (W1 s131) Q := by
                                                          intro m146 em146
                                                          have h148 := h145 m146 em146
                                                          refine wpl_sl (n := 5) (pc' := 451) (ls' := [some (.int x0), some (.int x1), some (.int x2), some (.ref 1), some (.int x4), some (.int x5), some (.int m37), some (.int (m40 + m43)), some (.int m65), some (.int m81), some (.int v107), some (.int m115), some (.int (m115 + (1 : Int32))), some (.int m137), some (.int m140), some (.int (m143 + m146)), none]) (st' := [.int (16 : Int32), .int (0 : Int32), .ref 1]) rfl ?_
                                                          refine wpl_v1 (m' := 22) (me' := cm22) (as := [.int (0 : Int32), .int (16 : Int32)]) (r := []) rfl rfl rfl rfl rfl ⟨by decide, (by first | decide | exact Nat.le_of_ble_eq_true rfl), (by first | decide | exact Nat.le_of_ble_eq_true rfl), rfl⟩ (cal_I (calI.mono h148 fun v150 s149 h151 => ?_))
                                                          refine wpl_sl (n := 1) (pc' := 456) (ls' := [some (.int x0), some (.int x1), some (.int x2), some (.ref 1), some (.int x4), some (.int x5), some (.int m37), some (.int (m40 + m43)), some (.int m65), some (.int m81), some (.int v107), some (.int m115), some (.int (m115 + (1 : Int32))), some (.int m137), some (.int m140), some (.int (m143 + m146)), none]) (st' := [.int (m143 + m146), .int v150]) rfl ?_
                                                          refine wpl_icmp (a := 461) (b := 459) rfl (by decide) rfl rfl (wpl_br (p := v150 = (m143 + m146)) ⟨fun hc152 => ?_, fun hc152 => ?_⟩)
                                                          · have h153 := h151.1 hc152
                                                            refine wpl_sl (n := 3) (pc' := 465) (ls' := [some (.int x0), some (.int x1), some (.int x2), some (.ref 1), some (.int x4), some (.int x5), some (.int m37), some (.int (m40 + m43)), some (.int m65), some (.int m81), some (.int v107), some (.int m115), some (.int (m115 + (1 : Int32))), some (.int m137), some (.int m140), some (.int (m143 + m146)), none]) (st' := [.int m137, .int (0 : Int32), .ref 1]) rfl ?_
                                                            have hm156 : ∀ m155, m155 = (if m137 = (0 : Int32) then (if m140 = (0 : Int32) then (-1 : Int32) else (1 : Int32)) else (0 : Int32)) → wplI PP QQ none 0 lm0 482 [some (.int x0), some (.int x1), some (.int x2), some (.ref 1), some (.int x4), some (.int x5), some (.int m37), some (.int (m40 + m43)), some (.int m65), some (.int m81), some (.int v107), some (.int m115), some (.int (m115 + (1 : Int32))), some (.int m137), some (.int m140), some (.int (m143 + m146)), none] [.int m155, .int (0 : Int32), .ref 1] (W1 s149) Q := by
                                                              intro m155 em155
                                                              have h157 := h153 m155 em155
                                                              refine wpl_sl (n := 1) (pc' := 484) (ls' := [some (.int x0), some (.int x1), some (.int x2), some (.ref 1), some (.int x4), some (.int x5), some (.int m37), some (.int (m40 + m43)), some (.int m65), some (.int m81), some (.int v107), some (.int m115), some (.int (m115 + (1 : Int32))), some (.int m137), some (.int m140), some (.int (m143 + m146)), none]) (st' := [.int m137, .int m155, .int (0 : Int32), .ref 1]) rfl ?_
                                                              have hm159 : ∀ m158, m158 = (if m137 = (0 : Int32) then (if m140 = (0 : Int32) then (0 : Int32) else x5) else x4) → wplI PP QQ none 0 lm0 503 [some (.int x0), some (.int x1), some (.int x2), some (.ref 1), some (.int x4), some (.int x5), some (.int m37), some (.int (m40 + m43)), some (.int m65), some (.int m81), some (.int v107), some (.int m115), some (.int (m115 + (1 : Int32))), some (.int m137), some (.int m140), some (.int (m143 + m146)), none] [.int m158, .int m155, .int (0 : Int32), .ref 1] (W1 s149) Q := by
                                                                intro m158 em158
                                                                have h160 := h157 m158 em158
                                                                refine wpl_stat (m' := 2) (me' := lm2) (as := [.ref 1, .int (0 : Int32), .int m155, .int m158]) (r := []) rfl rfl rfl rfl rfl ⟨(by first | decide | exact Nat.le_of_ble_eq_true rfl), (by first | decide | exact Nat.le_of_ble_eq_true rfl), (by first | decide | exact Nat.le_of_ble_eq_true rfl), (by first | decide | exact Nat.le_of_ble_eq_true rfl), rfl⟩ (lal_I (lalI.mono h160 fun v162 w161 hh => ?_))
                                                                obtain ⟨s164, rfl, h163⟩ := hh
                                                                refine wpl_if (a := 511) (b := 509) rfl (by decide) rfl rfl (wpl_br (p := v162 = (0 : Int32)) ⟨fun hc165 => ?_, fun hc165 => ?_⟩)
                                                                · have h166 := h163.1 hc165
                                                                  refine wpl_sl (n := 1) (pc' := 510) (ls' := [some (.int x0), some (.int x1), some (.int x2), some (.ref 1), some (.int x4), some (.int x5), some (.int m37), some (.int (m40 + m43)), some (.int m65), some (.int m81), some (.int v107), some (.int m115), some (.int (m115 + (1 : Int32))), some (.int m137), some (.int m140), some (.int (m143 + m146)), none]) (st' := [.int (0 : Int32)]) rfl ?_
                                                                  exact wpl_ret rfl rfl rfl ⟨(0 : Int32), rfl, h166⟩
                                                                · have h167 := h163.2 hc165
                                                                  refine wpl_sl (n := 1) (pc' := 513) (ls' := [some (.int x0), some (.int x1), some (.int x2), some (.ref 1), some (.int x4), some (.int x5), some (.int m37), some (.int (m40 + m43)), some (.int m65), some (.int m81), some (.int v107), some (.int m115), some (.int (m115 + (1 : Int32))), some (.int m137), some (.int m140), some (.int (m143 + m146)), none]) (st' := [.int m137]) rfl ?_
                                                                  have hm169 : ∀ m168, m168 = (if m137 = (0 : Int32) then (0 : Int32) else (if m140 = (0 : Int32) then (0 : Int32) else (1 : Int32))) → wplI PP QQ none 0 lm0 526 [some (.int x0), some (.int x1), some (.int x2), some (.ref 1), some (.int x4), some (.int x5), some (.int m37), some (.int (m40 + m43)), some (.int m65), some (.int m81), some (.int v107), some (.int m115), some (.int (m115 + (1 : Int32))), some (.int m137), some (.int m140), some (.int (m143 + m146)), none] [.int m168] (W1 s164) Q := by
                                                                    intro m168 em168
                                                                    have h170 := h167 m168 em168
                                                                    refine wpl_sl (n := 4) (pc' := 532) (ls' := [some (.int x0), some (.int x1), some (.int x2), some (.ref 1), some (.int x4), some (.int x5), some (.int m37), some (.int (m40 + m43)), some (.int m65), some (.int m81), some (.int v107), some (.int m115), some (.int (m115 + (1 : Int32))), some (.int m137), some (.int m140), some (.int (m143 + m146)), some (.int m168)]) (st' := [.int m168, .int (1 : Int32), .ref 1]) rfl ?_
                                                                    have hm172 : ∀ m171, m171 = (if m168 = (0 : Int32) then (-1 : Int32) else (1 : Int32)) → wplI PP QQ none 0 lm0 540 [some (.int x0), some (.int x1), some (.int x2), some (.ref 1), some (.int x4), some (.int x5), some (.int m37), some (.int (m40 + m43)), some (.int m65), some (.int m81), some (.int v107), some (.int m115), some (.int (m115 + (1 : Int32))), some (.int m137), some (.int m140), some (.int (m143 + m146)), some (.int m168)] [.int m171, .int (1 : Int32), .ref 1] (W1 s164) Q := by
                                                                      intro m171 em171
                                                                      have h173 := h170 m171 em171
                                                                      refine wpl_sl (n := 1) (pc' := 542) (ls' := [some (.int x0), some (.int x1), some (.int x2), some (.ref 1), some (.int x4), some (.int x5), some (.int m37), some (.int (m40 + m43)), some (.int m65), some (.int m81), some (.int v107), some (.int m115), some (.int (m115 + (1 : Int32))), some (.int m137), some (.int m140), some (.int (m143 + m146)), some (.int m168)]) (st' := [.int m168, .int m171, .int (1 : Int32), .ref 1]) rfl ?_
                                                                      have hm175 : ∀ m174, m174 = (if m168 = (0 : Int32) then (0 : Int32) else x5) → wplI PP QQ none 0 lm0 551 [some (.int x0), some (.int x1), some (.int x2), some (.ref 1), some (.int x4), some (.int x5), some (.int m37), some (.int (m40 + m43)), some (.int m65), some (.int m81), some (.int v107), some (.int m115), some (.int (m115 + (1 : Int32))), some (.int m137), some (.int m140), some (.int (m143 + m146)), some (.int m168)] [.int m174, .int m171, .int (1 : Int32), .ref 1] (W1 s164) Q := by
                                                                        intro m174 em174
                                                                        have h176 := h173 m174 em174
                                                                        refine wpl_stat (m' := 2) (me' := lm2) (as := [.ref 1, .int (1 : Int32), .int m171, .int m174]) (r := []) rfl rfl rfl rfl rfl ⟨(by first | decide | exact Nat.le_of_ble_eq_true rfl), (by first | decide | exact Nat.le_of_ble_eq_true rfl), (by first | decide | exact Nat.le_of_ble_eq_true rfl), (by first | decide | exact Nat.le_of_ble_eq_true rfl), rfl⟩ (lal_I (lalI.mono h176 fun v178 w177 hh => ?_))
                                                                        obtain ⟨s180, rfl, h179⟩ := hh
                                                                        exact wpl_ret rfl rfl rfl ⟨(v178 &&& 1), rfl, h179⟩
                                                                      refine wpl_if (a := 550) (b := 545) rfl (by decide) rfl rfl (wpl_br (p := m168 = (0 : Int32)) ⟨fun hc181 => ?_, fun hc181 => ?_⟩)
                                                                      · refine wpl_sl (n := 1) (pc' := 551) (ls' := [some (.int x0), some (.int x1), some (.int x2), some (.ref 1), some (.int x4), some (.int x5), some (.int m37), some (.int (m40 + m43)), some (.int m65), some (.int m81), some (.int v107), some (.int m115), some (.int (m115 + (1 : Int32))), some (.int m137), some (.int m140), some (.int (m143 + m146)), some (.int m168)]) (st' := [.int (0 : Int32), .int m171, .int (1 : Int32), .ref 1]) rfl ?_
                                                                        first | exact hm175 _ (by simp only [if_pos hc181]) | exact wpl_lle (by repeat (first | exact trivial | refine ⟨rfl, ?_⟩)) (hm175 _ (by simp only [if_pos hc181]))
                                                                      · refine wpl_sl (n := 2) (pc' := 551) (ls' := [some (.int x0), some (.int x1), some (.int x2), some (.ref 1), some (.int x4), some (.int x5), some (.int m37), some (.int (m40 + m43)), some (.int m65), some (.int m81), some (.int v107), some (.int m115), some (.int (m115 + (1 : Int32))), some (.int m137), some (.int m140), some (.int (m143 + m146)), some (.int m168)]) (st' := [.int x5, .int m171, .int (1 : Int32), .ref 1]) rfl ?_
                                                                        first | exact hm175 _ (by simp only [if_neg hc181]) | exact wpl_lle (by repeat (first | exact trivial | refine ⟨rfl, ?_⟩)) (hm175 _ (by simp only [if_neg hc181]))
                                                                    refine wpl_if (a := 539) (b := 535) rfl (by decide) rfl rfl (wpl_br (p := m168 = (0 : Int32)) ⟨fun hc182 => ?_, fun hc182 => ?_⟩)
                                                                    · refine wpl_sl (n := 1) (pc' := 540) (ls' := [some (.int x0), some (.int x1), some (.int x2), some (.ref 1), some (.int x4), some (.int x5), some (.int m37), some (.int (m40 + m43)), some (.int m65), some (.int m81), some (.int v107), some (.int m115), some (.int (m115 + (1 : Int32))), some (.int m137), some (.int m140), some (.int (m143 + m146)), some (.int m168)]) (st' := [.int (-1 : Int32), .int (1 : Int32), .ref 1]) rfl ?_
                                                                      first | exact hm172 _ (by simp only [if_pos hc182]) | exact wpl_lle (by repeat (first | exact trivial | refine ⟨rfl, ?_⟩)) (hm172 _ (by simp only [if_pos hc182]))
                                                                    · refine wpl_sl (n := 2) (pc' := 540) (ls' := [some (.int x0), some (.int x1), some (.int x2), some (.ref 1), some (.int x4), some (.int x5), some (.int m37), some (.int (m40 + m43)), some (.int m65), some (.int m81), some (.int v107), some (.int m115), some (.int (m115 + (1 : Int32))), some (.int m137), some (.int m140), some (.int (m143 + m146)), some (.int m168)]) (st' := [.int (1 : Int32), .int (1 : Int32), .ref 1]) rfl ?_
                                                                      first | exact hm172 _ (by simp only [if_neg hc182]) | exact wpl_lle (by repeat (first | exact trivial | refine ⟨rfl, ?_⟩)) (hm172 _ (by simp only [if_neg hc182]))
                                                                  refine wpl_if (a := 525) (b := 516) rfl (by decide) rfl rfl (wpl_br (p := m137 = (0 : Int32)) ⟨fun hc183 => ?_, fun hc183 => ?_⟩)
                                                                  · refine wpl_sl (n := 1) (pc' := 526) (ls' := [some (.int x0), some (.int x1), some (.int x2), some (.ref 1), some (.int x4), some (.int x5), some (.int m37), some (.int (m40 + m43)), some (.int m65), some (.int m81), some (.int v107), some (.int m115), some (.int (m115 + (1 : Int32))), some (.int m137), some (.int m140), some (.int (m143 + m146)), none]) (st' := [.int (0 : Int32)]) rfl ?_
                                                                    first | exact hm169 _ (by simp only [if_pos hc183]) | exact wpl_lle (by repeat (first | exact trivial | refine ⟨rfl, ?_⟩)) (hm169 _ (by simp only [if_pos hc183]))
                                                                  · refine wpl_sl (n := 1) (pc' := 518) (ls' := [some (.int x0), some (.int x1), some (.int x2), some (.ref 1), some (.int x4), some (.int x5), some (.int m37), some (.int (m40 + m43)), some (.int m65), some (.int m81), some (.int v107), some (.int m115), some (.int (m115 + (1 : Int32))), some (.int m137), some (.int m140), some (.int (m143 + m146)), none]) (st' := [.int m140]) rfl ?_
                                                                    refine wpl_if (a := 525) (b := 521) rfl (by decide) rfl rfl (wpl_br (p := m140 = (0 : Int32)) ⟨fun hc184 => ?_, fun hc184 => ?_⟩)
                                                                    · refine wpl_sl (n := 1) (pc' := 526) (ls' := [some (.int x0), some (.int x1), some (.int x2), some (.ref 1), some (.int x4), some (.int x5), some (.int m37), some (.int (m40 + m43)), some (.int m65), some (.int m81), some (.int v107), some (.int m115), some (.int (m115 + (1 : Int32))), some (.int m137), some (.int m140), some (.int (m143 + m146)), none]) (st' := [.int (0 : Int32)]) rfl ?_
                                                                      first | exact hm169 _ (by simp only [if_neg hc183, if_pos hc184]) | exact wpl_lle (by repeat (first | exact trivial | refine ⟨rfl, ?_⟩)) (hm169 _ (by simp only [if_neg hc183, if_pos hc184]))
                                                                    · refine wpl_sl (n := 2) (pc' := 526) (ls' := [some (.int x0), some (.int x1), some (.int x2), some (.ref 1), some (.int x4), some (.int x5), some (.int m37), some (.int (m40 + m43)), some (.int m65), some (.int m81), some (.int v107), some (.int m115), some (.int (m115 + (1 : Int32))), some (.int m137), some (.int m140), some (.int (m143 + m146)), none]) (st' := [.int (1 : Int32)]) rfl ?_
                                                                      first | exact hm169 _ (by simp only [if_neg hc183, if_neg hc184]) | exact wpl_lle (by repeat (first | exact trivial | refine ⟨rfl, ?_⟩)) (hm169 _ (by simp only [if_neg hc183, if_neg hc184]))
                                                              refine wpl_if (a := 492) (b := 487) rfl (by decide) rfl rfl (wpl_br (p := m137 = (0 : Int32)) ⟨fun hc185 => ?_, fun hc185 => ?_⟩)
                                                              · refine wpl_sl (n := 1) (pc' := 494) (ls' := [some (.int x0), some (.int x1), some (.int x2), some (.ref 1), some (.int x4), some (.int x5), some (.int m37), some (.int (m40 + m43)), some (.int m65), some (.int m81), some (.int v107), some (.int m115), some (.int (m115 + (1 : Int32))), some (.int m137), some (.int m140), some (.int (m143 + m146)), none]) (st' := [.int m140, .int m155, .int (0 : Int32), .ref 1]) rfl ?_
                                                                refine wpl_if (a := 502) (b := 497) rfl (by decide) rfl rfl (wpl_br (p := m140 = (0 : Int32)) ⟨fun hc186 => ?_, fun hc186 => ?_⟩)
                                                                · refine wpl_sl (n := 1) (pc' := 503) (ls' := [some (.int x0), some (.int x1), some (.int x2), some (.ref 1), some (.int x4), some (.int x5), some (.int m37), some (.int (m40 + m43)), some (.int m65), some (.int m81), some (.int v107), some (.int m115), some (.int (m115 + (1 : Int32))), some (.int m137), some (.int m140), some (.int (m143 + m146)), none]) (st' := [.int (0 : Int32), .int m155, .int (0 : Int32), .ref 1]) rfl ?_
                                                                  first | exact hm159 _ (by simp only [if_pos hc185, if_pos hc186]) | exact wpl_lle (by repeat (first | exact trivial | refine ⟨rfl, ?_⟩)) (hm159 _ (by simp only [if_pos hc185, if_pos hc186]))
                                                                · refine wpl_sl (n := 2) (pc' := 503) (ls' := [some (.int x0), some (.int x1), some (.int x2), some (.ref 1), some (.int x4), some (.int x5), some (.int m37), some (.int (m40 + m43)), some (.int m65), some (.int m81), some (.int v107), some (.int m115), some (.int (m115 + (1 : Int32))), some (.int m137), some (.int m140), some (.int (m143 + m146)), none]) (st' := [.int x5, .int m155, .int (0 : Int32), .ref 1]) rfl ?_
                                                                  first | exact hm159 _ (by simp only [if_pos hc185, if_neg hc186]) | exact wpl_lle (by repeat (first | exact trivial | refine ⟨rfl, ?_⟩)) (hm159 _ (by simp only [if_pos hc185, if_neg hc186]))
                                                              · refine wpl_sl (n := 2) (pc' := 503) (ls' := [some (.int x0), some (.int x1), some (.int x2), some (.ref 1), some (.int x4), some (.int x5), some (.int m37), some (.int (m40 + m43)), some (.int m65), some (.int m81), some (.int v107), some (.int m115), some (.int (m115 + (1 : Int32))), some (.int m137), some (.int m140), some (.int (m143 + m146)), none]) (st' := [.int x4, .int m155, .int (0 : Int32), .ref 1]) rfl ?_
                                                                first | exact hm159 _ (by simp only [if_neg hc185]) | exact wpl_lle (by repeat (first | exact trivial | refine ⟨rfl, ?_⟩)) (hm159 _ (by simp only [if_neg hc185]))
                                                            refine wpl_if (a := 472) (b := 468) rfl (by decide) rfl rfl (wpl_br (p := m137 = (0 : Int32)) ⟨fun hc187 => ?_, fun hc187 => ?_⟩)
                                                            · refine wpl_sl (n := 1) (pc' := 474) (ls' := [some (.int x0), some (.int x1), some (.int x2), some (.ref 1), some (.int x4), some (.int x5), some (.int m37), some (.int (m40 + m43)), some (.int m65), some (.int m81), some (.int v107), some (.int m115), some (.int (m115 + (1 : Int32))), some (.int m137), some (.int m140), some (.int (m143 + m146)), none]) (st' := [.int m140, .int (0 : Int32), .ref 1]) rfl ?_
                                                              refine wpl_if (a := 481) (b := 477) rfl (by decide) rfl rfl (wpl_br (p := m140 = (0 : Int32)) ⟨fun hc188 => ?_, fun hc188 => ?_⟩)
                                                              · refine wpl_sl (n := 1) (pc' := 482) (ls' := [some (.int x0), some (.int x1), some (.int x2), some (.ref 1), some (.int x4), some (.int x5), some (.int m37), some (.int (m40 + m43)), some (.int m65), some (.int m81), some (.int v107), some (.int m115), some (.int (m115 + (1 : Int32))), some (.int m137), some (.int m140), some (.int (m143 + m146)), none]) (st' := [.int (-1 : Int32), .int (0 : Int32), .ref 1]) rfl ?_
                                                                first | exact hm156 _ (by simp only [if_pos hc187, if_pos hc188]) | exact wpl_lle (by repeat (first | exact trivial | refine ⟨rfl, ?_⟩)) (hm156 _ (by simp only [if_pos hc187, if_pos hc188]))
                                                              · refine wpl_sl (n := 2) (pc' := 482) (ls' := [some (.int x0), some (.int x1), some (.int x2), some (.ref 1), some (.int x4), some (.int x5), some (.int m37), some (.int (m40 + m43)), some (.int m65), some (.int m81), some (.int v107), some (.int m115), some (.int (m115 + (1 : Int32))), some (.int m137), some (.int m140), some (.int (m143 + m146)), none]) (st' := [.int (1 : Int32), .int (0 : Int32), .ref 1]) rfl ?_
                                                                first | exact hm156 _ (by simp only [if_pos hc187, if_neg hc188]) | exact wpl_lle (by repeat (first | exact trivial | refine ⟨rfl, ?_⟩)) (hm156 _ (by simp only [if_pos hc187, if_neg hc188]))
                                                            · refine wpl_sl (n := 2) (pc' := 482) (ls' := [some (.int x0), some (.int x1), some (.int x2), some (.ref 1), some (.int x4), some (.int x5), some (.int m37), some (.int (m40 + m43)), some (.int m65), some (.int m81), some (.int v107), some (.int m115), some (.int (m115 + (1 : Int32))), some (.int m137), some (.int m140), some (.int (m143 + m146)), none]) (st' := [.int (0 : Int32), .int (0 : Int32), .ref 1]) rfl ?_
                                                              first | exact hm156 _ (by simp only [if_neg hc187]) | exact wpl_lle (by repeat (first | exact trivial | refine ⟨rfl, ?_⟩)) (hm156 _ (by simp only [if_neg hc187]))
                                                          · have h154 := h151.2 hc152
                                                            refine wpl_sl (n := 1) (pc' := 460) (ls' := [some (.int x0), some (.int x1), some (.int x2), some (.ref 1), some (.int x4), some (.int x5), some (.int m37), some (.int (m40 + m43)), some (.int m65), some (.int m81), some (.int v107), some (.int m115), some (.int (m115 + (1 : Int32))), some (.int m137), some (.int m140), some (.int (m143 + m146)), none]) (st' := [.int (0 : Int32)]) rfl ?_
                                                            exact wpl_ret rfl rfl rfl ⟨(0 : Int32), rfl, h154⟩
                                                        refine wpl_if (a := 443) (b := 439) rfl (by decide) rfl rfl (wpl_br (p := m140 = (0 : Int32)) ⟨fun hc189 => ?_, fun hc189 => ?_⟩)
                                                        · refine wpl_sl (n := 1) (pc' := 444) (ls' := [some (.int x0), some (.int x1), some (.int x2), some (.ref 1), some (.int x4), some (.int x5), some (.int m37), some (.int (m40 + m43)), some (.int m65), some (.int m81), some (.int v107), some (.int m115), some (.int (m115 + (1 : Int32))), some (.int m137), some (.int m140), none, none]) (st' := [.int (0 : Int32), .int m143]) rfl ?_
                                                          first | exact hm147 _ (by simp only [if_pos hc189]) | exact wpl_lle (by repeat (first | exact trivial | refine ⟨rfl, ?_⟩)) (hm147 _ (by simp only [if_pos hc189]))
                                                        · refine wpl_sl (n := 2) (pc' := 444) (ls' := [some (.int x0), some (.int x1), some (.int x2), some (.ref 1), some (.int x4), some (.int x5), some (.int m37), some (.int (m40 + m43)), some (.int m65), some (.int m81), some (.int v107), some (.int m115), some (.int (m115 + (1 : Int32))), some (.int m137), some (.int m140), none, none]) (st' := [.int (1 : Int32), .int m143]) rfl ?_
                                                          first | exact hm147 _ (by simp only [if_neg hc189]) | exact wpl_lle (by repeat (first | exact trivial | refine ⟨rfl, ?_⟩)) (hm147 _ (by simp only [if_neg hc189]))
                                                      refine wpl_if (a := 433) (b := 429) rfl (by decide) rfl rfl (wpl_br (p := m137 = (0 : Int32)) ⟨fun hc190 => ?_, fun hc190 => ?_⟩)
                                                      · refine wpl_sl (n := 1) (pc' := 434) (ls' := [some (.int x0), some (.int x1), some (.int x2), some (.ref 1), some (.int x4), some (.int x5), some (.int m37), some (.int (m40 + m43)), some (.int m65), some (.int m81), some (.int v107), some (.int m115), some (.int (m115 + (1 : Int32))), some (.int m137), some (.int m140), none, none]) (st' := [.int (0 : Int32)]) rfl ?_
                                                        first | exact hm144 _ (by simp only [if_pos hc190]) | exact wpl_lle (by repeat (first | exact trivial | refine ⟨rfl, ?_⟩)) (hm144 _ (by simp only [if_pos hc190]))
                                                      · refine wpl_sl (n := 2) (pc' := 434) (ls' := [some (.int x0), some (.int x1), some (.int x2), some (.ref 1), some (.int x4), some (.int x5), some (.int m37), some (.int (m40 + m43)), some (.int m65), some (.int m81), some (.int v107), some (.int m115), some (.int (m115 + (1 : Int32))), some (.int m137), some (.int m140), none, none]) (st' := [.int (1 : Int32)]) rfl ?_
                                                        first | exact hm144 _ (by simp only [if_neg hc190]) | exact wpl_lle (by repeat (first | exact trivial | refine ⟨rfl, ?_⟩)) (hm144 _ (by simp only [if_neg hc190]))
                                                    refine wpl_icmp (a := 421) (b := 417) rfl (by decide) rfl rfl (wpl_br (p := (m115 + (1 : Int32)) < (4 : Int32)) ⟨fun hc191 => ?_, fun hc191 => ?_⟩)
                                                    · refine wpl_sl (n := 2) (pc' := 422) (ls' := [some (.int x0), some (.int x1), some (.int x2), some (.ref 1), some (.int x4), some (.int x5), some (.int m37), some (.int (m40 + m43)), some (.int m65), some (.int m81), some (.int v107), some (.int m115), some (.int (m115 + (1 : Int32))), some (.int m137), none, none, none]) (st' := [.int (1 : Int32)]) rfl ?_
                                                      first | exact hm141 _ (by simp only [if_pos hc191]) | exact wpl_lle (by repeat (first | exact trivial | refine ⟨rfl, ?_⟩)) (hm141 _ (by simp only [if_pos hc191]))
                                                    · refine wpl_sl (n := 1) (pc' := 422) (ls' := [some (.int x0), some (.int x1), some (.int x2), some (.ref 1), some (.int x4), some (.int x5), some (.int m37), some (.int (m40 + m43)), some (.int m65), some (.int m81), some (.int v107), some (.int m115), some (.int (m115 + (1 : Int32))), some (.int m137), none, none, none]) (st' := [.int (0 : Int32)]) rfl ?_
                                                      first | exact hm141 _ (by simp only [if_neg hc191]) | exact wpl_lle (by repeat (first | exact trivial | refine ⟨rfl, ?_⟩)) (hm141 _ (by simp only [if_neg hc191]))
                                                  refine wpl_if (a := 408) (b := 404) rfl (by decide) rfl rfl (wpl_br (p := m115 = (0 : Int32)) ⟨fun hc192 => ?_, fun hc192 => ?_⟩)
                                                  · refine wpl_sl (n := 2) (pc' := 409) (ls' := [some (.int x0), some (.int x1), some (.int x2), some (.ref 1), some (.int x4), some (.int x5), some (.int m37), some (.int (m40 + m43)), some (.int m65), some (.int m81), some (.int v107), some (.int m115), some (.int (m115 + (1 : Int32))), none, none, none, none]) (st' := [.int (1 : Int32)]) rfl ?_
                                                    first | exact hm138 _ (by simp only [if_pos hc192]) | exact wpl_lle (by repeat (first | exact trivial | refine ⟨rfl, ?_⟩)) (hm138 _ (by simp only [if_pos hc192]))
                                                  · refine wpl_sl (n := 1) (pc' := 409) (ls' := [some (.int x0), some (.int x1), some (.int x2), some (.ref 1), some (.int x4), some (.int x5), some (.int m37), some (.int (m40 + m43)), some (.int m65), some (.int m81), some (.int v107), some (.int m115), some (.int (m115 + (1 : Int32))), none, none, none, none]) (st' := [.int (0 : Int32)]) rfl ?_
                                                    first | exact hm138 _ (by simp only [if_neg hc192]) | exact wpl_lle (by repeat (first | exact trivial | refine ⟨rfl, ?_⟩)) (hm138 _ (by simp only [if_neg hc192]))
                                                · have h136 := h133.2 hc134
                                                  refine wpl_sl (n := 1) (pc' := 392) (ls' := [some (.int x0), some (.int x1), some (.int x2), some (.ref 1), some (.int x4), some (.int x5), some (.int m37), some (.int (m40 + m43)), some (.int m65), some (.int m81), some (.int v107), some (.int m115), none, none, none, none, none]) (st' := [.int (0 : Int32)]) rfl ?_
                                                  exact wpl_ret rfl rfl rfl ⟨(0 : Int32), rfl, h136⟩
                                            · have h123 := h120.2 hc121
                                              refine wpl_sl (n := 1) (pc' := 368) (ls' := [some (.int x0), some (.int x1), some (.int x2), some (.ref 1), some (.int x4), some (.int x5), some (.int m37), some (.int (m40 + m43)), some (.int m65), some (.int m81), some (.int v107), some (.int m115), none, none, none, none, none]) (st' := [.int (0 : Int32)]) rfl ?_
                                              exact wpl_ret rfl rfl rfl ⟨(0 : Int32), rfl, h123⟩
                                          refine wpl_if (a := 353) (b := 346) rfl (by decide) rfl rfl (wpl_br (p := (0 : Int32) < m37) ⟨fun hc193 => ?_, fun hc193 => ?_⟩)
                                          · refine wpl_sl (n := 4) (pc' := 354) (ls' := [some (.int x0), some (.int x1), some (.int x2), some (.ref 1), some (.int x4), some (.int x5), some (.int m37), some (.int (m40 + m43)), some (.int m65), some (.int m81), some (.int v107), none, none, none, none, none, none]) (st' := [.int (m37 - (1 : Int32))]) rfl ?_
                                            first | exact hm116 _ (by simp only [if_pos hc193]) | exact wpl_lle (by repeat (first | exact trivial | refine ⟨rfl, ?_⟩)) (hm116 _ (by simp only [if_pos hc193]))
                                          · refine wpl_sl (n := 1) (pc' := 354) (ls' := [some (.int x0), some (.int x1), some (.int x2), some (.ref 1), some (.int x4), some (.int x5), some (.int m37), some (.int (m40 + m43)), some (.int m65), some (.int m81), some (.int v107), none, none, none, none, none, none]) (st' := [.int (0 : Int32)]) rfl ?_
                                            first | exact hm116 _ (by simp only [if_neg hc193]) | exact wpl_lle (by repeat (first | exact trivial | refine ⟨rfl, ?_⟩)) (hm116 _ (by simp only [if_neg hc193]))
                                        · have h114 := h111.2 hc112
                                          refine wpl_sl (n := 1) (pc' := 340) (ls' := [some (.int x0), some (.int x1), some (.int x2), some (.ref 1), some (.int x4), some (.int x5), some (.int m37), some (.int (m40 + m43)), some (.int m65), some (.int m81), some (.int v107), none, none, none, none, none, none]) (st' := [.int (0 : Int32)]) rfl ?_
                                          exact wpl_ret rfl rfl rfl ⟨(0 : Int32), rfl, h114⟩
                                      refine wpl_if (a := 334) (b := 326) rfl (by decide) rfl rfl (wpl_br (p := (0 : Int32) < m37) ⟨fun hc194 => ?_, fun hc194 => ?_⟩)
                                      · refine wpl_sl (n := 4) (pc' := 336) (ls' := [some (.int x0), some (.int x1), some (.int x2), some (.ref 1), some (.int x4), some (.int x5), some (.int m37), some (.int (m40 + m43)), some (.int m65), some (.int m81), some (.int v107), none, none, none, none, none, none]) (st' := [.int (x1 &&& (255 : Int32)), .int v107]) rfl ?_
                                        first | exact hm110 _ (by simp only [if_pos hc194]) | exact wpl_lle (by repeat (first | exact trivial | refine ⟨rfl, ?_⟩)) (hm110 _ (by simp only [if_pos hc194]))
                                      · refine wpl_sl (n := 1) (pc' := 336) (ls' := [some (.int x0), some (.int x1), some (.int x2), some (.ref 1), some (.int x4), some (.int x5), some (.int m37), some (.int (m40 + m43)), some (.int m65), some (.int m81), some (.int v107), none, none, none, none, none, none]) (st' := [.int (-2 : Int32), .int v107]) rfl ?_
                                        first | exact hm110 _ (by simp only [if_neg hc194]) | exact wpl_lle (by repeat (first | exact trivial | refine ⟨rfl, ?_⟩)) (hm110 _ (by simp only [if_neg hc194]))
                                  refine wpl_if (a := 303) (b := 298) rfl (by decide) rfl rfl (wpl_br (p := m81 = (0 : Int32)) ⟨fun hc195 => ?_, fun hc195 => ?_⟩)
                                  · refine wpl_sl (n := 1) (pc' := 304) (ls' := [some (.int x0), some (.int x1), some (.int x2), some (.ref 1), some (.int x4), some (.int x5), some (.int m37), some (.int (m40 + m43)), some (.int m65), some (.int m81), none, none, none, none, none, none, none]) (st' := [.int (0 : Int32), .int m93, .int (0 : Int32), .ref 1]) rfl ?_
                                    first | exact hm97 _ (by simp only [if_pos hc195]) | exact wpl_lle (by repeat (first | exact trivial | refine ⟨rfl, ?_⟩)) (hm97 _ (by simp only [if_pos hc195]))
                                  · refine wpl_sl (n := 2) (pc' := 304) (ls' := [some (.int x0), some (.int x1), some (.int x2), some (.ref 1), some (.int x4), some (.int x5), some (.int m37), some (.int (m40 + m43)), some (.int m65), some (.int m81), none, none, none, none, none, none, none]) (st' := [.int x5, .int m93, .int (0 : Int32), .ref 1]) rfl ?_
                                    first | exact hm97 _ (by simp only [if_neg hc195]) | exact wpl_lle (by repeat (first | exact trivial | refine ⟨rfl, ?_⟩)) (hm97 _ (by simp only [if_neg hc195]))
                                refine wpl_if (a := 292) (b := 288) rfl (by decide) rfl rfl (wpl_br (p := m81 = (0 : Int32)) ⟨fun hc196 => ?_, fun hc196 => ?_⟩)
                                · refine wpl_sl (n := 1) (pc' := 293) (ls' := [some (.int x0), some (.int x1), some (.int x2), some (.ref 1), some (.int x4), some (.int x5), some (.int m37), some (.int (m40 + m43)), some (.int m65), some (.int m81), none, none, none, none, none, none, none]) (st' := [.int (-1 : Int32), .int (0 : Int32), .ref 1]) rfl ?_
                                  first | exact hm94 _ (by simp only [if_pos hc196]) | exact wpl_lle (by repeat (first | exact trivial | refine ⟨rfl, ?_⟩)) (hm94 _ (by simp only [if_pos hc196]))
                                · refine wpl_sl (n := 2) (pc' := 293) (ls' := [some (.int x0), some (.int x1), some (.int x2), some (.ref 1), some (.int x4), some (.int x5), some (.int m37), some (.int (m40 + m43)), some (.int m65), some (.int m81), none, none, none, none, none, none, none]) (st' := [.int (1 : Int32), .int (0 : Int32), .ref 1]) rfl ?_
                                  first | exact hm94 _ (by simp only [if_neg hc196]) | exact wpl_lle (by repeat (first | exact trivial | refine ⟨rfl, ?_⟩)) (hm94 _ (by simp only [if_neg hc196]))
                              · have h92 := h89.2 hc90
                                refine wpl_sl (n := 1) (pc' := 280) (ls' := [some (.int x0), some (.int x1), some (.int x2), some (.ref 1), some (.int x4), some (.int x5), some (.int m37), some (.int (m40 + m43)), some (.int m65), some (.int m81), none, none, none, none, none, none, none]) (st' := [.int (0 : Int32)]) rfl ?_
                                exact wpl_ret rfl rfl rfl ⟨(0 : Int32), rfl, h92⟩
                            refine wpl_if (a := 275) (b := 271) rfl (by decide) rfl rfl (wpl_br (p := m81 = (0 : Int32)) ⟨fun hc197 => ?_, fun hc197 => ?_⟩)
                            · refine wpl_sl (n := 1) (pc' := 276) (ls' := [some (.int x0), some (.int x1), some (.int x2), some (.ref 1), some (.int x4), some (.int x5), some (.int m37), some (.int (m40 + m43)), some (.int m65), some (.int m81), none, none, none, none, none, none, none]) (st' := [.int (0 : Int32), .int v85]) rfl ?_
                              first | exact hm88 _ (by simp only [if_pos hc197]) | exact wpl_lle (by repeat (first | exact trivial | refine ⟨rfl, ?_⟩)) (hm88 _ (by simp only [if_pos hc197]))
                            · refine wpl_sl (n := 2) (pc' := 276) (ls' := [some (.int x0), some (.int x1), some (.int x2), some (.ref 1), some (.int x4), some (.int x5), some (.int m37), some (.int (m40 + m43)), some (.int m65), some (.int m81), none, none, none, none, none, none, none]) (st' := [.int (1 : Int32), .int v85]) rfl ?_
                              first | exact hm88 _ (by simp only [if_neg hc197]) | exact wpl_lle (by repeat (first | exact trivial | refine ⟨rfl, ?_⟩)) (hm88 _ (by simp only [if_neg hc197]))
                          refine wpl_icmp (a := 256) (b := 252) rfl (by decide) rfl rfl (wpl_br (p := m37 < (4 : Int32)) ⟨fun hc198 => ?_, fun hc198 => ?_⟩)
                          · refine wpl_sl (n := 2) (pc' := 257) (ls' := [some (.int x0), some (.int x1), some (.int x2), some (.ref 1), some (.int x4), some (.int x5), some (.int m37), some (.int (m40 + m43)), some (.int m65), none, none, none, none, none, none, none, none]) (st' := [.int (1 : Int32)]) rfl ?_
                            first | exact hm82 _ (by simp only [if_pos hc198]) | exact wpl_lle (by repeat (first | exact trivial | refine ⟨rfl, ?_⟩)) (hm82 _ (by simp only [if_pos hc198]))
                          · refine wpl_sl (n := 1) (pc' := 257) (ls' := [some (.int x0), some (.int x1), some (.int x2), some (.ref 1), some (.int x4), some (.int x5), some (.int m37), some (.int (m40 + m43)), some (.int m65), none, none, none, none, none, none, none, none]) (st' := [.int (0 : Int32)]) rfl ?_
                            first | exact hm82 _ (by simp only [if_neg hc198]) | exact wpl_lle (by repeat (first | exact trivial | refine ⟨rfl, ?_⟩)) (hm82 _ (by simp only [if_neg hc198]))
                      refine wpl_if (a := 237) (b := 232) rfl (by decide) rfl rfl (wpl_br (p := m65 = (0 : Int32)) ⟨fun hc199 => ?_, fun hc199 => ?_⟩)
                      · refine wpl_sl (n := 1) (pc' := 238) (ls' := [some (.int x0), some (.int x1), some (.int x2), some (.ref 1), some (.int x4), some (.int x5), some (.int m37), some (.int (m40 + m43)), some (.int m65), none, none, none, none, none, none, none, none]) (st' := [.int (0 : Int32), .int m68, .int (1 : Int32), .ref 1]) rfl ?_
                        first | exact hm72 _ (by simp only [if_pos hc199]) | exact wpl_lle (by repeat (first | exact trivial | refine ⟨rfl, ?_⟩)) (hm72 _ (by simp only [if_pos hc199]))
                      · refine wpl_sl (n := 2) (pc' := 238) (ls' := [some (.int x0), some (.int x1), some (.int x2), some (.ref 1), some (.int x4), some (.int x5), some (.int m37), some (.int (m40 + m43)), some (.int m65), none, none, none, none, none, none, none, none]) (st' := [.int x5, .int m68, .int (1 : Int32), .ref 1]) rfl ?_
                        first | exact hm72 _ (by simp only [if_neg hc199]) | exact wpl_lle (by repeat (first | exact trivial | refine ⟨rfl, ?_⟩)) (hm72 _ (by simp only [if_neg hc199]))
                    refine wpl_if (a := 226) (b := 222) rfl (by decide) rfl rfl (wpl_br (p := m65 = (0 : Int32)) ⟨fun hc200 => ?_, fun hc200 => ?_⟩)
                    · refine wpl_sl (n := 1) (pc' := 227) (ls' := [some (.int x0), some (.int x1), some (.int x2), some (.ref 1), some (.int x4), some (.int x5), some (.int m37), some (.int (m40 + m43)), some (.int m65), none, none, none, none, none, none, none, none]) (st' := [.int (-1 : Int32), .int (1 : Int32), .ref 1]) rfl ?_
                      first | exact hm69 _ (by simp only [if_pos hc200]) | exact wpl_lle (by repeat (first | exact trivial | refine ⟨rfl, ?_⟩)) (hm69 _ (by simp only [if_pos hc200]))
                    · refine wpl_sl (n := 2) (pc' := 227) (ls' := [some (.int x0), some (.int x1), some (.int x2), some (.ref 1), some (.int x4), some (.int x5), some (.int m37), some (.int (m40 + m43)), some (.int m65), none, none, none, none, none, none, none, none]) (st' := [.int (1 : Int32), .int (1 : Int32), .ref 1]) rfl ?_
                      first | exact hm69 _ (by simp only [if_neg hc200]) | exact wpl_lle (by repeat (first | exact trivial | refine ⟨rfl, ?_⟩)) (hm69 _ (by simp only [if_neg hc200]))
                  refine wpl_if (a := 212) (b := 202) rfl (by decide) rfl rfl (wpl_br (p := (0 : Int32) < m37) ⟨fun hc201 => ?_, fun hc201 => ?_⟩)
                  · refine wpl_sl (n := 2) (pc' := 205) (ls' := [some (.int x0), some (.int x1), some (.int x2), some (.ref 1), some (.int x4), some (.int x5), some (.int m37), some (.int (m40 + m43)), none, none, none, none, none, none, none, none, none]) (st' := [.int (4 : Int32), .int m37]) rfl ?_
                    refine wpl_icmp (a := 212) (b := 208) rfl (by decide) rfl rfl (wpl_br (p := m37 < (4 : Int32)) ⟨fun hc202 => ?_, fun hc202 => ?_⟩)
                    · refine wpl_sl (n := 2) (pc' := 213) (ls' := [some (.int x0), some (.int x1), some (.int x2), some (.ref 1), some (.int x4), some (.int x5), some (.int m37), some (.int (m40 + m43)), none, none, none, none, none, none, none, none, none]) (st' := [.int (1 : Int32)]) rfl ?_
                      first | exact hm66 _ (by simp only [if_pos hc201, if_pos hc202]) | exact wpl_lle (by repeat (first | exact trivial | refine ⟨rfl, ?_⟩)) (hm66 _ (by simp only [if_pos hc201, if_pos hc202]))
                    · refine wpl_sl (n := 1) (pc' := 213) (ls' := [some (.int x0), some (.int x1), some (.int x2), some (.ref 1), some (.int x4), some (.int x5), some (.int m37), some (.int (m40 + m43)), none, none, none, none, none, none, none, none, none]) (st' := [.int (0 : Int32)]) rfl ?_
                      first | exact hm66 _ (by simp only [if_pos hc201, if_neg hc202]) | exact wpl_lle (by repeat (first | exact trivial | refine ⟨rfl, ?_⟩)) (hm66 _ (by simp only [if_pos hc201, if_neg hc202]))
                  · refine wpl_sl (n := 1) (pc' := 213) (ls' := [some (.int x0), some (.int x1), some (.int x2), some (.ref 1), some (.int x4), some (.int x5), some (.int m37), some (.int (m40 + m43)), none, none, none, none, none, none, none, none, none]) (st' := [.int (0 : Int32)]) rfl ?_
                    first | exact hm66 _ (by simp only [if_neg hc201]) | exact wpl_lle (by repeat (first | exact trivial | refine ⟨rfl, ?_⟩)) (hm66 _ (by simp only [if_neg hc201]))
              refine wpl_if (a := 187) (b := 182) rfl (by decide) rfl rfl (wpl_br (p := (0 : Int32) < m37) ⟨fun hc203 => ?_, fun hc203 => ?_⟩)
              · refine wpl_sl (n := 2) (pc' := 189) (ls' := [some (.int x0), some (.int x1), some (.int x2), some (.ref 1), some (.int x4), some (.int x5), some (.int m37), some (.int (m40 + m43)), none, none, none, none, none, none, none, none, none]) (st' := [.int x4, .int m52, .int (0 : Int32), .ref 1]) rfl ?_
                first | exact hm56 _ (by simp only [if_pos hc203]) | exact wpl_lle (by repeat (first | exact trivial | refine ⟨rfl, ?_⟩)) (hm56 _ (by simp only [if_pos hc203]))
              · refine wpl_sl (n := 1) (pc' := 189) (ls' := [some (.int x0), some (.int x1), some (.int x2), some (.ref 1), some (.int x4), some (.int x5), some (.int m37), some (.int (m40 + m43)), none, none, none, none, none, none, none, none, none]) (st' := [.int x5, .int m52, .int (0 : Int32), .ref 1]) rfl ?_
                first | exact hm56 _ (by simp only [if_neg hc203]) | exact wpl_lle (by repeat (first | exact trivial | refine ⟨rfl, ?_⟩)) (hm56 _ (by simp only [if_neg hc203]))
            refine wpl_if (a := 176) (b := 172) rfl (by decide) rfl rfl (wpl_br (p := (0 : Int32) < m37) ⟨fun hc204 => ?_, fun hc204 => ?_⟩)
            · refine wpl_sl (n := 2) (pc' := 177) (ls' := [some (.int x0), some (.int x1), some (.int x2), some (.ref 1), some (.int x4), some (.int x5), some (.int m37), some (.int (m40 + m43)), none, none, none, none, none, none, none, none, none]) (st' := [.int (0 : Int32), .int (0 : Int32), .ref 1]) rfl ?_
              first | exact hm53 _ (by simp only [if_pos hc204]) | exact wpl_lle (by repeat (first | exact trivial | refine ⟨rfl, ?_⟩)) (hm53 _ (by simp only [if_pos hc204]))
            · refine wpl_sl (n := 1) (pc' := 177) (ls' := [some (.int x0), some (.int x1), some (.int x2), some (.ref 1), some (.int x4), some (.int x5), some (.int m37), some (.int (m40 + m43)), none, none, none, none, none, none, none, none, none]) (st' := [.int (1 : Int32), .int (0 : Int32), .ref 1]) rfl ?_
              first | exact hm53 _ (by simp only [if_neg hc204]) | exact wpl_lle (by repeat (first | exact trivial | refine ⟨rfl, ?_⟩)) (hm53 _ (by simp only [if_neg hc204]))
          · have h51 := h48.2 hc49
            refine wpl_sl (n := 1) (pc' := 164) (ls' := [some (.int x0), some (.int x1), some (.int x2), some (.ref 1), some (.int x4), some (.int x5), some (.int m37), some (.int (m40 + m43)), none, none, none, none, none, none, none, none, none]) (st' := [.int (0 : Int32)]) rfl ?_
            exact wpl_ret rfl rfl rfl ⟨(0 : Int32), rfl, h51⟩
        refine wpl_icmp (a := 147) (b := 143) rfl (by decide) rfl rfl (wpl_br (p := m37 < (4 : Int32)) ⟨fun hc205 => ?_, fun hc205 => ?_⟩)
        · refine wpl_sl (n := 2) (pc' := 148) (ls' := [some (.int x0), some (.int x1), some (.int x2), some (.ref 1), some (.int x4), some (.int x5), some (.int m37), none, none, none, none, none, none, none, none, none, none]) (st' := [.int (1 : Int32), .int m40]) rfl ?_
          first | exact hm44 _ (by simp only [if_pos hc205]) | exact wpl_lle (by repeat (first | exact trivial | refine ⟨rfl, ?_⟩)) (hm44 _ (by simp only [if_pos hc205]))
        · refine wpl_sl (n := 1) (pc' := 148) (ls' := [some (.int x0), some (.int x1), some (.int x2), some (.ref 1), some (.int x4), some (.int x5), some (.int m37), none, none, none, none, none, none, none, none, none, none]) (st' := [.int (0 : Int32), .int m40]) rfl ?_
          first | exact hm44 _ (by simp only [if_neg hc205]) | exact wpl_lle (by repeat (first | exact trivial | refine ⟨rfl, ?_⟩)) (hm44 _ (by simp only [if_neg hc205]))
      refine wpl_if (a := 136) (b := 132) rfl (by decide) rfl rfl (wpl_br (p := (0 : Int32) < m37) ⟨fun hc206 => ?_, fun hc206 => ?_⟩)
      · refine wpl_sl (n := 2) (pc' := 137) (ls' := [some (.int x0), some (.int x1), some (.int x2), some (.ref 1), some (.int x4), some (.int x5), some (.int m37), none, none, none, none, none, none, none, none, none, none]) (st' := [.int (1 : Int32)]) rfl ?_
        first | exact hm41 _ (by simp only [if_pos hc206]) | exact wpl_lle (by repeat (first | exact trivial | refine ⟨rfl, ?_⟩)) (hm41 _ (by simp only [if_pos hc206]))
      · refine wpl_sl (n := 1) (pc' := 137) (ls' := [some (.int x0), some (.int x1), some (.int x2), some (.ref 1), some (.int x4), some (.int x5), some (.int m37), none, none, none, none, none, none, none, none, none, none]) (st' := [.int (0 : Int32)]) rfl ?_
        first | exact hm41 _ (by simp only [if_neg hc206]) | exact wpl_lle (by repeat (first | exact trivial | refine ⟨rfl, ?_⟩)) (hm41 _ (by simp only [if_neg hc206]))
    refine wpl_if (a := 115) (b := 111) rfl (by decide) rfl rfl (wpl_br (p := x0 < (0 : Int32)) ⟨fun hc207 => ?_, fun hc207 => ?_⟩)
    · refine wpl_sl (n := 2) (pc' := 125) (ls' := [some (.int x0), some (.int x1), some (.int x2), some (.ref 1), some (.int x4), some (.int x5), some (.int x6), none, none, none, none, none, none, none, none, none, none]) (st' := [.int (0 : Int32)]) rfl ?_
      first | exact hm38 _ (by simp only [if_pos hc207]) | exact wpl_lle (by repeat (first | exact trivial | refine ⟨rfl, ?_⟩)) (hm38 _ (by simp only [if_pos hc207]))
    · refine wpl_sl (n := 2) (pc' := 117) (ls' := [some (.int x0), some (.int x1), some (.int x2), some (.ref 1), some (.int x4), some (.int x5), some (.int x6), none, none, none, none, none, none, none, none, none, none]) (st' := [.int (4 : Int32), .int x0]) rfl ?_
      refine wpl_icmp (a := 124) (b := 120) rfl (by decide) rfl rfl (wpl_br (p := (4 : Int32) < x0) ⟨fun hc208 => ?_, fun hc208 => ?_⟩)
      · refine wpl_sl (n := 2) (pc' := 125) (ls' := [some (.int x0), some (.int x1), some (.int x2), some (.ref 1), some (.int x4), some (.int x5), some (.int x6), none, none, none, none, none, none, none, none, none, none]) (st' := [.int (4 : Int32)]) rfl ?_
        first | exact hm38 _ (by simp only [if_neg hc207, if_pos hc208]) | exact wpl_lle (by repeat (first | exact trivial | refine ⟨rfl, ?_⟩)) (hm38 _ (by simp only [if_neg hc207, if_pos hc208]))
      · refine wpl_sl (n := 1) (pc' := 125) (ls' := [some (.int x0), some (.int x1), some (.int x2), some (.ref 1), some (.int x4), some (.int x5), some (.int x6), none, none, none, none, none, none, none, none, none, none]) (st' := [.int x0]) rfl ?_
        first | exact hm38 _ (by simp only [if_neg hc207, if_neg hc208]) | exact wpl_lle (by repeat (first | exact trivial | refine ⟨rfl, ?_⟩)) (hm38 _ (by simp only [if_neg hc207, if_neg hc208]))
theorem l0_101 (x0 : Int32) (x1 : Int32) (x2 : Int32) (x4 : Int32) (x5 : Int32) (x6 : Int32)  (Q : Int32 → Wd → Prop) (h : wplI PP QQ none 0 lm0 58 [some (.int x0), some (.int x1), some (.int x2), some (.ref 1), some (.int x4), some (.int x5), some (.int (x6 + (1 : Int32))), none, none, none, none, none, none, none, none, none, none] [] (W1 s) Q) : wplI PP QQ none 0 lm0 101 [some (.int x0), some (.int x1), some (.int x2), some (.ref 1), some (.int x4), some (.int x5), some (.int x6), none, none, none, none, none, none, none, none, none, none] [] (W1 s) Q := by
  refine wpl_sl (n := 2) (pc' := 58) (ls' := [some (.int x0), some (.int x1), some (.int x2), some (.ref 1), some (.int x4), some (.int x5), some (.int (x6 + (1 : Int32))), none, none, none, none, none, none, none, none, none, none]) (st' := []) rfl ?_
  exact h
theorem own_clamp (x lo hi : Int32) (s : St) (Q : Int32 → St → Prop) (h : Q (if x < lo then lo else if hi < x then hi else x) s) : calI PP 2 11 [.ref 0, .int x, .int lo, .int hi] s Q := by
  apply c2_in
  refine ⟨fun a => ?_, fun a => ⟨fun b => ?_, fun b => ?_⟩⟩
  · rw [if_pos a] at h; exact h
  · rw [if_neg a, if_pos b] at h; exact h
  · rw [if_neg a, if_neg b] at h; exact h
theorem own_cl_rng {x lo hi m : Int32} (h : lo.toInt ≤ hi.toInt) (e : m = if x < lo then lo else if hi < x then hi else x) : lo.toInt ≤ m.toInt ∧ m.toInt ≤ hi.toInt := by
  subst e
  split
  · omega
  · split
    · omega
    · simp only [i32_lt] at *; omega
theorem own_two {x : Int32} (h : 1 ≤ x.toInt ∧ x.toInt ≤ 8) : (2 * x : Int32).toInt = 2 * x.toInt := by rw [i32_mul] <;> simp <;> omega
theorem own_is0 (s : St) (hn : 1 ≤ (gI s 0 17).toInt ∧ (gI s 0 17).toInt ≤ 8) (Q : Int32 → St → Prop) (h : Q (gI s 1 0 &&& 1) s) : calI PP 3 11 [.ref 0, .int 0] s Q := by
  apply c3_in
  refine ⟨fun q => absurd q (by decide), fun _ => ⟨fun _ => ⟨fun _ => ⟨by decide, h⟩, fun q => absurd (by decide) q⟩, fun q => absurd (by rw [i32_lt, own_two hn]; simp; omega) q⟩⟩
theorem own_is1 (s : St) (hn : 1 ≤ (gI s 0 17).toInt ∧ (gI s 0 17).toInt ≤ 8) (Q : Int32 → St → Prop) (h : Q (gI s 2 0 &&& 1) s) : calI PP 3 11 [.ref 0, .int 1] s Q := by
  apply c3_in
  refine ⟨fun q => absurd q (by decide), fun _ => ⟨fun _ => ⟨fun q => absurd q (by decide), fun _ => ⟨by decide, h⟩⟩, fun q => absurd (by rw [i32_lt, own_two hn]; simp; omega) q⟩⟩
theorem own_rr0 (s : St) (h2 : gI s 2 0 = 1) (Q : Int32 → St → Prop) (h : Q (if 0 < gI s 5 0 then 1 else 0) s) : calI PP 4 11 [.ref 0, .int 0] s Q := by
  apply c4_in
  refine ⟨fun _ => ⟨by decide, fun a => ⟨by decide, fun q => absurd (h2.symm.trans q) (by decide), fun _ => ?_⟩, fun a => ⟨by decide, fun m hm => ⟨by decide, fun q => absurd (h2.symm.trans q) (by decide), fun _ => ?_⟩⟩⟩, fun q => absurd (by decide) q⟩
  · have a' : 0 < gI s 5 0 := a
    rw [if_pos a'] at h; exact h
  · have a' : ¬ 0 < gI s 5 0 := a
    have hm' : m = if gI s 2 0 = 0 then 0 ||| 1 else 0 := hm
    rw [if_neg a'] at h; rw [h2] at hm'; simp at hm'; subst hm'; exact h
theorem own_rr1 (s : St) (h1 : gI s 1 0 = 1) (Q : Int32 → St → Prop) (h : Q (if gI s 5 0 < gI s 0 18 then 2 else 0) s) : calI PP 4 11 [.ref 0, .int 1] s Q := by
  apply c4_in
  refine ⟨fun q => absurd q (by decide), fun _ => ⟨by decide, fun a => ⟨by decide, fun q => absurd (h1.symm.trans q) (by decide), fun _ => ?_⟩, fun a => ⟨by decide, fun m hm => ⟨by decide, fun q => absurd (h1.symm.trans q) (by decide), fun _ => ?_⟩⟩⟩⟩
  · have a' : gI s 5 0 < gI s 0 18 := a
    rw [if_pos a'] at h; exact h
  · have a' : ¬ gI s 5 0 < gI s 0 18 := a
    have hm' : m = if gI s 1 0 = 0 then 0 ||| 2 else 0 := hm
    rw [if_neg a'] at h; rw [h1] at hm'; simp at hm'; subst hm'; exact h
theorem own_shr (x : Int32) : (x >>> ((1 : Int32) &&& 31)).toInt = x.toInt / 2 := Jvm.Kit.i32_shr x ((1 : Int32) &&& 31) (k := 1) (by decide)

/-- one pipe of four bytes, its ends registered: the read end edge-triggered, the write end not; b bytes, p pending -/
def own_V (s : St) (b p : Int32) : Prop := gI s 0 17 = 1 ∧ gI s 0 18 = 4 ∧ gI s 0 19 = 1 ∧ gI s 1 0 = 1 ∧ gI s 2 0 = 1 ∧ gI s 5 0 = b ∧ gI s 6 0 = 1 ∧ gI s 6 1 = 1 ∧ gI s 7 0 = 17 ∧ gI s 7 1 = 2 ∧ gI s 8 0 = 1 ∧ gI s 8 1 = 1 ∧ gI s 9 0 = p ∧ gI s 9 1 = 0
theorem own_e0 (s : St) (b p old : Int32) (hV : own_V s b p) (Q : St → Prop) (h : Q (sI s 9 0 ((p &&& (if 0 < b then 1 else 0)) ||| (((if 0 < b then 1 else 0) &&& (old ^^^ (-1 : Int32))) &&& 13)))) : calV PP 13 11 [.ref 0, .int 0, .int old] s Q := by
  obtain ⟨h17, h18, h19, h1, h2, h5, h60, h61, h70, h71, h80, h81, h90, h91⟩ := hV
  have x0 : ix (0 : Int32) = 0 := by decide
  apply c13_in
  refine own_is0 s (by rw [h17]; decide) _ ⟨fun q => absurd q (by rw [h1]; decide), fun _ => ?_⟩
  refine own_rr0 s h2 _ ?_
  rw [h5]
  refine c13_18 _ _ _ _ _ _ ⟨fun _ => ?_, fun q => absurd (by rw [h19]; decide) q⟩
  apply c8_in
  have e : (0 * 16 + 0 : Int32) = 0 := by decide
  rw [e, x0]
  refine ⟨by decide, fun q => absurd (h60.symm.trans q) (by decide), fun _ => ⟨by decide, fun q => absurd (h80.symm.trans q) (by decide), fun _ => ⟨by decide, fun q => absurd q (by rw [h70]; decide), fun _ => ⟨by decide, ?_⟩⟩⟩⟩
  rw [h70]
  apply c5_in
  refine ⟨by decide, by decide, ?_⟩
  refine c13_107 _ _ _ _ _ _ ?_
  refine c13_18 _ _ _ _ _ _ ⟨fun q => absurd q (by rw [gI_sI, if_neg (by decide), h19]; decide), fun _ => ?_⟩
  have e2 : (((17 : Int32) &&& 3) ||| 4) ||| 8 = 13 := by decide
  rw [e2, h90]
  exact h
theorem own_e1 (s : St) (b p old : Int32) (hV : own_V s b p) (Q : St → Prop) (h : Q s) : calV PP 13 11 [.ref 0, .int 1, .int old] s Q := by
  obtain ⟨h17, h18, h19, h1, h2, h5, h60, h61, h70, h71, h80, h81, h90, h91⟩ := hV
  apply c13_in
  refine own_is1 s (by rw [h17]; decide) _ ⟨fun q => absurd q (by rw [h2]; decide), fun _ => ?_⟩
  refine own_rr1 s h1 _ ?_
  refine c13_18 _ _ _ _ _ _ ⟨fun _ => ?_, fun q => absurd (by rw [h19]; decide) q⟩
  apply c8_in
  have e : (0 * 16 + 1 : Int32) = 1 := by decide
  have x1 : ix (1 : Int32) = 1 := by decide
  rw [e, x1]
  refine ⟨by decide, fun q => absurd (h61.symm.trans q) (by decide), fun _ => ⟨by decide, fun q => absurd (h81.symm.trans q) (by decide), fun _ => ⟨by decide, fun _ => ?_, fun q => absurd (by rw [h71]; decide) q⟩⟩⟩
  refine c13_107 _ _ _ _ _ _ ?_
  exact c13_18 _ _ _ _ _ _ ⟨fun q => absurd q (by rw [h19]; decide), fun _ => h⟩
theorem own_mask (x : Int32) : 0 ≤ (x &&& 15).toInt ∧ (x &&& 15).toInt < 16 := by
  have := Jvm.Kit.i32_mask x (m := 15) (k := 4) (by decide) (by decide)
  rw [this]; omega
theorem own_wr (s : St) (b p v : Int32) (hV : own_V s b p) (hb : 0 ≤ b.toInt ∧ b.toInt ≤ 4) (hp : p = 0 ∨ p = 1) (Q : Int32 → St → Prop)
    (h1 : b.toInt < 4 → ∀ t, own_V t (b + 1) (if b = 0 then 1 else p) → gI t 4 0 = gI s 4 0 → (∀ j, gI t 3 j = if j = ix ((gI s 4 0 + b) &&& 15) then v &&& 255 else gI s 3 j) → Q 0 t) (h2 : b.toInt = 4 → Q (-2) s) : calI PP 16 11 [.ref 0, .int 1, .int v] s Q := by
  obtain ⟨h17, h18, h19, o1, o2, h5, h60, h61, h70, h71, h80, h81, h90, h91⟩ := id hV
  have x0 : ix (0 : Int32) = 0 := by decide
  have sh : (1 : Int32) >>> ((1 : Int32) &&& 31) = 0 := by decide
  have e1 : (2 : Int32) * 0 + 1 = 1 := by decide
  have e0 : (2 : Int32) * 0 = 0 := by decide
  have e3 : ∀ y : Int32, (0 : Int32) * 16 + y = y := fun y => by simp
  apply c16_in
  simp only [sh, e0, e1, x0, e3]
  refine own_is1 s (by rw [h17]; decide) _ ⟨fun q => absurd q (by rw [o2]; decide), fun _ => ⟨fun q => absurd q (by decide), fun _ => ⟨by decide, fun q => absurd (o1.symm.trans q) (by decide), fun _ => ⟨by decide, fun a => ?_, fun a => ?_⟩⟩⟩⟩
  · rw [h5, h18] at a
    have a' : b.toInt < 4 := by rw [i32_lt] at a; simpa using a
    refine own_rr0 s o2 _ ?_
    refine own_rr1 s o1 _ ?_
    have mk := own_mask (gI s 4 0 + gI s 5 0)
    refine ⟨by decide, by decide, ⟨mk.1, by show _ < (128 : Int); omega⟩, by decide, by decide, ?_⟩
    rw [h5]
    have eb : (b + 1).toInt = b.toInt + 1 := by rw [i32_add] <;> simp <;> omega
    have V1 : own_V (sI (sI s 3 (ix ((gI s 4 0 + b) &&& 15)) (v &&& 255)) 5 0 (b + 1)) (b + 1) p := by
      unfold own_V; simp [gI_sI, h17, h18, h19, o1, o2, h60, h61, h70, h71, h80, h81, h90, h91]
    refine own_e0 _ (b + 1) p _ V1 _ ?_
    have pos : (0 : Int32) < b + 1 := by rw [i32_lt, eb]; simp; omega
    rw [if_pos pos]
    have ep : (p &&& 1 ||| (1 &&& ((if (0 : Int32) < b then (1 : Int32) else 0) ^^^ -1)) &&& 13) = if b = 0 then 1 else p := by
      by_cases z : b = 0
      · rw [if_pos z, z]; rcases hp with rfl | rfl <;> decide
      · have : (0 : Int32) < b := by rw [i32_lt]; rw [i32_eq] at z; simp at z ⊢; omega
        rw [if_neg z, if_pos this]; rcases hp with rfl | rfl <;> decide
    rw [ep]
    have V2 : own_V (sI (sI (sI s 3 (ix ((gI s 4 0 + b) &&& 15)) (v &&& 255)) 5 0 (b + 1)) 9 0 (if b = 0 then 1 else p)) (b + 1) (if b = 0 then 1 else p) := by
      unfold own_V; simp [gI_sI, h17, h18, h19, o1, o2, h60, h61, h70, h71, h80, h81, h90, h91]
    refine own_e1 _ (b + 1) _ _ V2 _ (h1 a' _ V2 ?_ fun j => ?_)
    · simp [gI_sI]
    · simp [gI_sI]
  · rw [h5, h18] at a
    exact h2 (by rw [i32_lt] at a; simp at a; omega)
theorem own_rd (s : St) (b : Int32) (hV : own_V s b 0) (hb : 0 ≤ b.toInt ∧ b.toInt ≤ 4) (h4 : gI s 4 0 = 0) (Q : Int32 → St → Prop)
    (h1 : b ≠ 0 → ∀ t, own_V t (b - 1) 0 → Q (gI s 3 0) t) (h2 : b = 0 → Q (-2) s) : calI PP 17 11 [.ref 0, .int 0] s Q := by
  obtain ⟨h17, h18, h19, o1, o2, h5, h60, h61, h70, h71, h80, h81, h90, h91⟩ := id hV
  have x0 : ix (0 : Int32) = 0 := by decide
  have sh : (0 : Int32) >>> ((1 : Int32) &&& 31) = 0 := by decide
  have e1 : (2 : Int32) * 0 + 1 = 1 := by decide
  have e0 : (2 : Int32) * 0 = 0 := by decide
  have e3 : ∀ y : Int32, (0 : Int32) * 16 + y = y := fun y => by simp
  apply c17_in
  simp only [sh, e0, e1, x0, e3]
  refine own_is0 s (by rw [h17]; decide) _ ⟨fun q => absurd q (by rw [o1]; decide), fun _ => ⟨fun _ => ⟨by decide, fun a => ⟨by decide, fun q => absurd (o2.symm.trans q) (by decide), fun _ => h2 (h5.symm.trans a)⟩, fun a => ?_⟩, fun q => absurd (by decide) q⟩⟩
  rw [h5] at a
  refine own_rr0 s o2 _ ?_
  refine own_rr1 s o1 _ ?_
  have mk := own_mask (gI s 4 0)
  refine ⟨by decide, ⟨mk.1, by show _ < (128 : Int); omega⟩, by decide, by decide, by decide, by decide, ?_⟩
  rw [h5, h4]
  have pos : (0 : Int32) < b := by rw [i32_lt]; rw [i32_eq] at a; simp at a ⊢; omega
  rw [if_pos pos]
  have V1 : own_V (sI (sI s 4 0 ((0 + 1) &&& 15)) 5 0 (b - 1)) (b - 1) 0 := by
    unfold own_V; simp [gI_sI, h17, h18, h19, o1, o2, h60, h61, h70, h71, h80, h81, h90, h91]
  refine own_e0 _ (b - 1) 0 _ V1 _ ?_
  have ep : ((0 : Int32) &&& (if 0 < b - 1 then 1 else 0) ||| ((if 0 < b - 1 then 1 else 0) &&& ((1 : Int32) ^^^ -1)) &&& 13) = 0 := by
    split <;> decide
  rw [ep]
  have V2 : own_V (sI (sI (sI s 4 0 ((0 + 1) &&& 15)) 5 0 (b - 1)) 9 0 0) (b - 1) 0 := by
    unfold own_V; simp [gI_sI, h17, h18, h19, o1, o2, h60, h61, h70, h71, h80, h81, h90, h91]
  refine own_e1 _ (b - 1) _ _ V2 _ ?_
  have x1 : ix ((0 : Int32) &&& 15) = 0 := by decide
  rw [x1]
  exact h1 a _ V2
theorem own_pk1 (s : St) (b p : Int32) (hV : own_V s b p) (Q : Int32 → St → Prop) (h : Q (if b < 4 then 2 else 0) s) : calI PP 9 11 [.ref 0, .int 1, .int 1] s Q := by
  obtain ⟨h17, h18, h19, o1, o2, h5, h60, h61, h70, h71, h80, h81, h90, h91⟩ := id hV
  have x1 : ix (1 : Int32) = 1 := by decide
  apply c9_in
  simp only [x1]
  refine ⟨by decide, fun q => absurd (h81.symm.trans q) (by decide), fun _ => ⟨by decide, fun _ => ?_, fun q => absurd (by rw [h71]; decide) q⟩⟩
  refine own_rr1 s o1 _ ⟨by decide, ?_⟩
  rw [h71, h5, h18]
  apply c5_in
  have e : (if b < 4 then (2 : Int32) else 0) &&& (((2 : Int32) &&& 3) ||| 4 ||| 8) = if b < 4 then 2 else 0 := by split <;> decide
  rw [e]; exact h
theorem own_con1 (s : St) (h7 : gI s 7 1 = 2) (Q : St → Prop) (h : Q s) : calV PP 23 11 [.ref 0, .int 1] s Q := by
  have x1 : ix (1 : Int32) = 1 := by decide
  apply c23_in
  simp only [x1, h7]
  exact ⟨by decide, fun _ => ⟨by decide, fun _ => h, fun q => absurd (by decide) q⟩, fun q => absurd (by decide) q⟩
/-- the second turn of wait, n events so far -/
theorem own_w1 (s : St) (b p n : Int32) (hV : own_V s b p) (hn : 0 ≤ n.toInt ∧ n.toInt ≤ 1) (Q : Int32 → St → Prop)
    (h1 : b.toInt < 4 → Q (n + 1) (sI (sI (sI s 10 (ix n) 1) 11 (ix n) 2) 0 31 (n + 1))) (h2 : ¬ b.toInt < 4 → Q n (sI s 0 31 n)) :
    wpcI PP 22 cm22 11 43 [some (.ref 0), some (.int 0), none, some (.int 16), some (.int n), some (.int 2), some (.int 1), none, none] [] s Q := by
  obtain ⟨h17, h18, h19, o1, o2, h5, h60, h61, h70, h71, h80, h81, h90, h91⟩ := id hV
  have x1 : ix (1 : Int32) = 1 := by decide
  refine c22_43 _ _ _ _ _ _ _ ⟨fun _ => ⟨fun _ => ?_, fun q => absurd (by rw [i32_lt]; simp; omega) q⟩, fun q => absurd (by decide) q⟩
  apply c8_in
  have e : (0 * 16 + 1 : Int32) = 1 := by decide
  rw [e, x1]
  have fin : ∀ m t, Q m (sI t 0 31 m) → wpcI PP 22 cm22 11 123 [some (.ref 0), some (.int 0), none, some (.int 16), some (.int m), some (.int 2), some (.int 1), none, none] [] t Q := by
    intro m t hq
    refine c22_123 _ _ _ _ _ _ _ ?_
    exact c22_43 _ _ _ _ _ _ _ ⟨fun q => absurd q (by decide), fun _ => c22_129 _ _ _ hq⟩
  have nb : inb 16 n := ⟨hn.1, by show _ < (16 : Int); omega⟩
  refine ⟨by decide, fun q => absurd (h61.symm.trans q) (by decide), fun _ => own_pk1 s b p hV _ ⟨fun q => ?_, fun q => ⟨nb, nb, ?_⟩⟩⟩
  · refine fin _ _ (h2 fun z => ?_)
    have z' : b < 4 := by rw [i32_lt]; simpa using z
    rw [if_pos z'] at q; exact absurd q (by decide)
  · have z : b < 4 := Classical.byContradiction fun z => q (by rw [if_neg z])
    rw [if_pos z]
    refine own_con1 _ (by simp [gI_sI, h71]) _ (fin _ _ (h1 ?_))
    rw [i32_lt] at z; simpa using z
def own_n (b p : Int32) : Int32 := p + (if b < 4 then 1 else 0)
theorem own_wt (s : St) (b p : Int32) (hV : own_V s b p) (hp : p = 0 ∨ p = 1) (Q : Int32 → St → Prop)
    (h : ∀ t, own_V t b 0 → gI t 4 0 = gI s 4 0 → gI t 3 0 = gI s 3 0 → gI t 0 31 = own_n b p → (p = 1 → gI t 10 0 = 0 ∧ gI t 11 0 = 1) → (p = 1 → b < 4 → gI t 10 1 = 1 ∧ gI t 11 1 = 2) → (p = 0 → b < 4 → gI t 10 0 = 1 ∧ gI t 11 0 = 2) → Q (own_n b p) t) : calI PP 22 11 [.ref 0, .int 0, .int 16] s Q := by
  obtain ⟨h17, h18, h19, o1, o2, h5, h60, h61, h70, h71, h80, h81, h90, h91⟩ := id hV
  have x0 : ix (0 : Int32) = 0 := by decide
  have x1 : ix (1 : Int32) = 1 := by decide
  apply c22_in
  refine c6_in _ _ _ ⟨fun q => absurd q (by decide), fun _ => ⟨fun _ => ?_, fun q => absurd (by rw [h19]; decide) q⟩⟩
  refine ⟨fun q => absurd q (by decide), fun _ => ⟨fun q => absurd q (by decide), fun _ m em => ?_⟩⟩
  have em : m = 16 := by rw [em]; decide
  subst em
  rw [h17]
  have e2 : (2 : Int32) * 1 = 2 := by decide
  rw [e2]
  refine c22_43 _ _ _ _ _ _ _ ⟨fun _ => ⟨fun _ => ?_, fun q => absurd (by decide) q⟩, fun q => absurd (by decide) q⟩
  apply c8_in
  have e : (0 * 16 + 0 : Int32) = 0 := by decide
  have e01 : (0 + 1 : Int32) = 1 := by decide
  have e11 : (1 + 1 : Int32) = 2 := by decide
  rw [e, x0]
  refine ⟨by decide, fun q => absurd (h60.symm.trans q) (by decide), fun _ => ?_⟩
  apply c9_in
  simp only [x0, h80, h70, h90]
  refine ⟨by decide, fun q => absurd q (by decide), fun _ => ⟨by decide, fun q => absurd q (by decide), fun _ => ⟨by decide, fun a => ?_, fun a => ⟨by decide, by decide, ?_⟩⟩⟩⟩
  · refine c22_123 _ _ _ _ _ _ _ ?_
    rw [e01]
    subst a
    refine own_w1 s b 0 0 hV (by decide) _ (fun z => ?_) (fun z => ?_)
    · have z' : b < 4 := by rw [i32_lt]; simpa using z
      have en : own_n b 0 = 0 + 1 := by rw [own_n, if_pos z']
      rw [en] at h; rw [x0]
      refine h _ ?_ ?_ ?_ ?_ (fun q => absurd q (by decide)) (fun q => absurd q (by decide)) (fun _ _ => ?_)
      · unfold own_V; simp [gI_sI, h17, h18, h19, o1, o2, h5, h60, h61, h70, h71, h80, h81, h90, h91]
      · simp [gI_sI]
      · simp [gI_sI]
      · simp [gI_sI]
      · simp [gI_sI]
    · have z' : ¬ b < 4 := by rw [i32_lt]; simpa using z
      have en : own_n b 0 = 0 := by rw [own_n, if_neg z']; decide
      rw [en] at h
      refine h _ ?_ ?_ ?_ ?_ (fun q => absurd q (by decide)) (fun q => absurd q (by decide)) (fun _ q => absurd q z')
      · unfold own_V; simp [gI_sI, h17, h18, h19, o1, o2, h5, h60, h61, h70, h71, h80, h81, h90, h91]
      · simp [gI_sI]
      · simp [gI_sI]
      · simp [gI_sI]
  · have hp : p = 1 := hp.resolve_left a
    subst hp
    have k7 : gI (sI (sI s 10 0 0) 11 0 1) 7 0 = 17 := by simp [gI_sI, h70]
    apply c23_in
    simp only [x0, k7]
    refine ⟨by decide, fun _ => ⟨by decide, fun q => absurd q (by decide), fun _ => ⟨by decide, ?_⟩⟩, fun q => absurd (by decide) q⟩
    refine c22_123 _ _ _ _ _ _ _ ?_
    rw [e01]
    have V1 : own_V (sI (sI (sI s 10 0 0) 11 0 1) 9 0 0) b 0 := by
      unfold own_V; simp [gI_sI, h17, h18, h19, o1, o2, h5, h60, h61, h70, h71, h80, h81, h90, h91]
    refine own_w1 _ b 0 1 V1 (by decide) _ (fun z => ?_) (fun z => ?_)
    · have z' : b < 4 := by rw [i32_lt]; simpa using z
      have en : own_n b 1 = 1 + 1 := by rw [own_n, if_pos z']
      rw [en] at h; rw [x1]
      refine h _ ?_ ?_ ?_ ?_ (fun _ => ?_) (fun _ _ => ?_) (fun q => absurd q (by decide))
      · unfold own_V; simp [gI_sI, h17, h18, h19, o1, o2, h5, h60, h61, h70, h71, h80, h81, h90, h91]
      · simp [gI_sI]
      · simp [gI_sI]
      · simp [gI_sI]
      · simp [gI_sI]
      · simp [gI_sI]
    · have z' : ¬ b < 4 := by rw [i32_lt]; simpa using z
      have en : own_n b 1 = 1 := by rw [own_n, if_neg z']; decide
      rw [en] at h
      refine h _ ?_ ?_ ?_ ?_ (fun _ => ?_) (fun _ q => absurd q z') (fun q => absurd q (by decide))
      · unfold own_V; simp [gI_sI, h17, h18, h19, o1, o2, h5, h60, h61, h70, h71, h80, h81, h90, h91]
      · simp [gI_sI]
      · simp [gI_sI]
      · simp [gI_sI]
      · simp [gI_sI]
theorem own_ev (s : St) (i fd mk : Int32) (hi : inb 16 i) (e1 : fd = if i < gI s 0 31 then gI s 10 (ix i) else -1) (e2 : mk = if i < gI s 0 31 then gI s 11 (ix i) else 0) (R : Int32 → Wd → Prop) (h : R 1 (W1 s)) : lalI PP QQ none 2 [.ref 1, .int i, .int fd, .int mk] (W1 s) R := by
  have nn : ¬ i < 0 := by rw [i32_lt]; simp; exact hi.1
  apply l2r1W1_in
  apply c24_in
  refine ⟨fun q => absurd q nn, fun _ => ⟨fun a => ⟨hi, ?_⟩, fun a => ?_⟩⟩
  · rw [if_pos a] at e1 e2
    refine ⟨fun _ => ?_, fun q => absurd e1.symm q⟩
    apply c25_in
    exact ⟨fun q => absurd q nn, fun _ => ⟨fun _ => ⟨hi, fun _ => h, fun q => absurd e2.symm q⟩, fun q => absurd a q⟩⟩
  · rw [if_neg a] at e1 e2
    refine ⟨fun _ => ?_, fun q => absurd e1.symm q⟩
    apply c25_in
    exact ⟨fun q => absurd q nn, fun _ => ⟨fun q => absurd q a, fun _ => ⟨fun _ => h, fun q => absurd e2.symm q⟩⟩⟩

def own_F0 (b p : Int32) : Int32 := if p = 1 then 0 else if b < 4 then 1 else -1
def own_M0 (b p : Int32) : Int32 := if p = 1 then 1 else if b < 4 then 2 else 0
def own_F1 (b p : Int32) : Int32 := if p = 1 ∧ b < 4 then 1 else -1
def own_M1 (b p : Int32) : Int32 := if p = 1 ∧ b < 4 then 2 else 0
/-- wait and what the list then says -/
theorem own_wk (s : St) (b p : Int32) (hV : own_V s b p) (hp : p = 0 ∨ p = 1) (Q : Int32 → St → Prop)
    (h : ∀ t, own_V t b 0 → gI t 4 0 = gI s 4 0 → gI t 3 0 = gI s 3 0 → own_F0 b p = (if 0 < gI t 0 31 then gI t 10 (ix 0) else -1) → own_M0 b p = (if 0 < gI t 0 31 then gI t 11 (ix 0) else 0) → own_F1 b p = (if 1 < gI t 0 31 then gI t 10 (ix 1) else -1) → own_M1 b p = (if 1 < gI t 0 31 then gI t 11 (ix 1) else 0) → Q (own_n b p) t) : calI PP 22 11 [.ref 0, .int 0, .int 16] s Q := by
  refine own_wt s b p hV hp Q fun t v1 v2 v3 n p1 p2 p3 => h t v1 v2 v3 ?_ ?_ ?_ ?_
  all_goals
    have x0 : ix (0 : Int32) = 0 := by decide
    have x1 : ix (1 : Int32) = 1 := by decide
    have d1 : (0 : Int32) < 0 + 1 := by decide
    have d2 : ¬ (1 : Int32) < 0 + 1 := by decide
    have d3 : (0 : Int32) < 1 + 1 := by decide
    have d4 : (1 : Int32) < 1 + 1 := by decide
    have d5 : ¬ (0 : Int32) < 0 + 0 := by decide
    have d6 : ¬ (1 : Int32) < 0 + 0 := by decide
    have d7 : (0 : Int32) < 1 + 0 := by decide
    have d8 : ¬ (1 : Int32) < 1 + 0 := by decide
    have d9 : ¬ (0 : Int32) = 1 := by decide
    rw [n]
    rcases hp with rfl | rfl
    · by_cases z : b < 4
      · simp only [own_F0, own_F1, own_M0, own_M1, own_n, z, if_true, d1, d2, d9, x0, x1, p3 rfl z, if_false, false_and]
      · simp only [own_F0, own_F1, own_M0, own_M1, own_n, z, if_true, d5, d6, d9, x0, x1, if_false, false_and]
    · by_cases z : b < 4
      · simp only [own_F0, own_F1, own_M0, own_M1, own_n, z, if_true, d3, d4, x0, x1, p1 rfl, p2 rfl z, and_self]
      · simp only [own_F0, own_F1, own_M0, own_M1, own_n, z, if_true, d7, d8, x0, x1, p1 rfl, if_false, and_false]
theorem law_ok (i0 i1 i2 : Int32) : lalI PP QQ none 0 [.int i0, .int i1, .int i2] W0 (fun v _ => v = 1) := by
  apply l0_in
  apply c0_in
  apply own_clamp
  apply own_clamp
  apply own_clamp
  have k1 : (if (1 : Int32) < 1 then (1 : Int32) else if 8 < (1 : Int32) then 8 else 1) = 1 := by decide
  have k2 : (if (4 : Int32) < 1 then (1 : Int32) else if 16 < (4 : Int32) then 16 else 4) = 4 := by decide
  have k3 : (if (1 : Int32) < 1 then (1 : Int32) else if 4 < (1 : Int32) then 4 else 1) = 1 := by decide
  rw [k1, k2, k3]
  apply c15_in
  refine c15_2 _ _ _ ⟨fun _ => ⟨by decide, fun _ => ⟨by decide, fun _ => ⟨by decide, by decide, by decide, by decide, ?_⟩, fun q => absurd rfl q⟩, fun q => absurd rfl q⟩, fun q => absurd (by decide) q⟩
  refine ⟨fun _ => ?_, fun q => absurd rfl q⟩
  have x0 : ix (0 : Int32) = 0 := by decide
  have x1 : ix (1 : Int32) = 1 := by decide
  rw [x0]
  generalize hS : sI (sI (sI (sI _ 1 0 1) 2 0 1) 4 0 0) 5 0 0 = S
  have h17 : gI S 0 17 = 1 := by subst hS; rfl
  have h18 : gI S 0 18 = 4 := by subst hS; rfl
  have h19 : gI S 0 19 = 1 := by subst hS; rfl
  have o1 : gI S 1 0 = 1 := by subst hS; rfl
  have o2 : gI S 2 0 = 1 := by subst hS; rfl
  have h40 : gI S 4 0 = 0 := by subst hS; rfl
  have h50 : gI S 5 0 = 0 := by subst hS; rfl
  have h60 : gI S 6 0 = 0 := by subst hS; rfl
  have h61 : gI S 6 1 = 0 := by subst hS; rfl
  have h91 : gI S 9 1 = 0 := by subst hS; rfl
  clear hS
  have d17 : (1 : Int32) ||| 16 = 17 := by decide
  rw [d17]
  apply c19_in
  refine c6_in _ _ _ ⟨fun q => absurd q (by decide), fun _ => ⟨fun _ => ?_, fun q => absurd (by rw [h19]; decide) q⟩⟩
  refine ⟨fun q => absurd q (by decide), fun _ => c7_in _ _ _ ⟨fun _ => ⟨fun q => absurd q (by decide), fun _ => ?_⟩, fun q => absurd (by decide) q⟩⟩
  refine own_is0 S (by rw [h17]; decide) _ ⟨fun q => absurd q (by rw [o1]; decide), fun _ => ?_⟩
  apply c8_in
  have e00 : (0 * 16 + 0 : Int32) = 0 := by decide
  have e01 : (0 * 16 + 1 : Int32) = 1 := by decide
  rw [e00, x0]
  refine ⟨by decide, fun _ => ⟨by decide, ?_⟩, fun q => absurd h60 q⟩
  apply c10_in
  rw [x0]
  refine ⟨by decide, by decide, fun q => absurd q (by decide), fun _ => ?_⟩
  refine own_rr0 _ (by simp [gI_sI, o2]) _ ?_
  have n0 : ¬ (0 : Int32) < 0 := by decide
  have z5 : gI (sI (sI (sI S 6 0 1) 7 0 17) 8 0 1) 5 0 = 0 := by simp [gI_sI, h50]
  rw [z5, if_neg n0]
  apply c5_in
  refine ⟨by decide, ?_⟩
  refine ⟨fun _ => ?_, fun q => absurd rfl q⟩
  have e9 : (0 : Int32) &&& (((17 : Int32) &&& 3) ||| 4 ||| 8) = 0 := by decide
  rw [e9]
  generalize hT : sI (sI (sI (sI S 6 0 1) 7 0 17) 8 0 1) 9 0 0 = T
  have t17 : gI T 0 17 = 1 := by subst hT; simp [gI_sI, h17]
  have t18 : gI T 0 18 = 4 := by subst hT; simp [gI_sI, h18]
  have t19 : gI T 0 19 = 1 := by subst hT; simp [gI_sI, h19]
  have t1 : gI T 1 0 = 1 := by subst hT; simp [gI_sI, o1]
  have t2 : gI T 2 0 = 1 := by subst hT; simp [gI_sI, o2]
  have t40 : gI T 4 0 = 0 := by subst hT; simp [gI_sI, h40]
  have t50 : gI T 5 0 = 0 := by subst hT; simp [gI_sI, h50]
  have t60 : gI T 6 0 = 1 := by subst hT; simp [gI_sI]
  have t61 : gI T 6 1 = 0 := by subst hT; simp [gI_sI, h61]
  have t70 : gI T 7 0 = 17 := by subst hT; simp [gI_sI]
  have t80 : gI T 8 0 = 1 := by subst hT; simp [gI_sI]
  have t90 : gI T 9 0 = 0 := by subst hT; simp [gI_sI]
  have t91 : gI T 9 1 = 0 := by subst hT; simp [gI_sI, h91]
  clear hT h17 h18 h19 o1 o2 h40 h50 h60 h61 h91 z5
  apply c19_in
  refine c6_in _ _ _ ⟨fun q => absurd q (by decide), fun _ => ⟨fun _ => ?_, fun q => absurd (by rw [t19]; decide) q⟩⟩
  refine ⟨fun q => absurd q (by decide), fun _ => c7_in _ _ _ ⟨fun _ => ⟨fun q => absurd q (by decide), fun _ => ?_⟩, fun q => absurd (by decide) q⟩⟩
  refine own_is1 T (by rw [t17]; decide) _ ⟨fun q => absurd q (by rw [t2]; decide), fun _ => ?_⟩
  apply c8_in
  rw [e01, x1]
  refine ⟨by decide, fun _ => ⟨by decide, ?_⟩, fun q => absurd t61 q⟩
  apply c10_in
  rw [x1]
  refine ⟨by decide, by decide, fun _ => ⟨by decide, ?_⟩, fun q => absurd (by decide) q⟩
  refine ⟨fun _ => ?_, fun q => absurd rfl q⟩
  have V0 : own_V (sI (sI (sI (sI T 6 1 1) 7 1 2) 8 1 1) 9 1 0) 0 0 := by
    unfold own_V; simp [gI_sI, t17, t18, t19, t1, t2, t50, t60, t70, t80, t90]
  have W4 : gI (sI (sI (sI (sI T 6 1 1) 7 1 2) 8 1 1) 9 1 0) 4 0 = 0 := by simp [gI_sI, t40]
  generalize (sI (sI (sI (sI T 6 1 1) 7 1 2) 8 1 1) 9 1 0) = U at V0 W4 ⊢
  clear t17 t18 t19 t1 t2 t40 t50 t60 t61 t70 t80 t90 t91
  refine loop_up (F := fun i => ∀ (b : Int32) (s : St), own_V s b (if b = 0 then 0 else 1) → gI s 4 0 = 0 → (b ≠ 0 → gI s 3 0 = i1 &&& 255) → b.toInt = min (min i.toInt (max i0.toInt 0)) 4 → wplI PP QQ none 0 lm0 58 [some (.int i0), some (.int i1), some (.int i2), some (.ref 1), some (.int 1), some (.int 2), some (.int i), none, none, none, none, none, none, none, none, none, none] [] (W1 s) (fun v _ => v = 1)) 8 (by decide) (fun i h0 h1 e ih b s hV s4 s3 hb => ?_) (fun i hi b s hV s4 s3 hb => ?_) 0 (by decide) (by decide) 0 U V0 W4 (fun q => absurd rfl q) (by simp; omega)
  · have nx : ∀ (b' : Int32) (t : St), own_V t b' (if b' = 0 then 0 else 1) → gI t 4 0 = 0 → (b' ≠ 0 → gI t 3 0 = i1 &&& 255) → b'.toInt = min (min (i.toInt + 1) (max i0.toInt 0)) 4 → wplI PP QQ none 0 lm0 101 [some (.int i0), some (.int i1), some (.int i2), some (.ref 1), some (.int 1), some (.int 2), some (.int i), none, none, none, none, none, none, none, none, none, none] [] (W1 t) (fun v _ => v = 1) :=
      fun b' t v1 v2 v3 v4 => l0_101 _ _ _ _ _ _ _ (ih b' t v1 v2 v3 (by rw [e]; exact v4))
    refine l0_58 _ _ _ _ _ _ _ ⟨fun _ => ⟨fun a => ?_, fun a => nx b s hV s4 s3 ?_⟩, fun q => absurd (by rw [i32_lt]; exact h1) q⟩
    · rw [i32_lt] at a
      refine own_wr s b _ _ hV (by omega) (by by_cases z : b = 0 <;> simp [z]) _ (fun z t v1 v2 v3 m em => ?_) (fun z m em => ?_)
      · have bi : b.toInt = i.toInt := by omega
        have : m = 0 := by rw [em, if_pos (by rw [i32_lt]; simp; omega)]
        subst this
        have eb : (b + 1).toInt = b.toInt + 1 := by rw [i32_add] <;> simp <;> omega
        have nz : b + 1 ≠ 0 := fun q => by rw [q] at eb; simp at eb; omega
        refine ⟨fun _ => nx (b + 1) t ?_ (v2.trans s4) (fun _ => ?_) (by omega), fun q => absurd rfl q⟩
        · rw [if_neg nz]
          by_cases z0 : b = 0
          · rw [if_pos z0] at v1; exact v1
          · rw [if_neg z0, if_neg z0] at v1; exact v1
        · have mk := Jvm.Kit.i32_mask (0 + b) 15 (k := 4) (by decide) (by decide)
          have zb : (0 : Int32) + b = b := by simp
          rw [v3, s4]
          rw [zb] at mk ⊢
          have kx := ix_int (i := b &&& 15) (by rw [mk]; omega)
          by_cases z0 : b = 0
          · have i00 : i = 0 := by rw [i32_eq, ← bi, z0]
            rw [if_pos (by rw [z0]; decide), i00]; simp
          · rw [if_neg, s3 z0]
            intro q
            rw [← q, mk] at kx
            rw [i32_eq] at z0
            simp at z0 kx
            omega
      · have : m = -2 := by rw [em, if_neg (by rw [i32_lt]; simp; omega)]
        subst this
        exact ⟨fun _ => nx b s hV s4 s3 (by omega), fun q => absurd rfl q⟩
    · rw [i32_lt] at a; omega
  · refine l0_58 _ _ _ _ _ _ _ ⟨fun q => absurd q (by rw [i32_lt, hi]; decide), fun _ m37 e37 => ?_⟩
    have eb : m37 = b := by
      rw [i32_eq, e37, hb, hi]
      by_cases a : i0 < 0
      · rw [if_pos a]; rw [i32_lt] at a; simp at a ⊢; omega
      · rw [if_neg a]
        by_cases c : 4 < i0
        · rw [if_pos c]; rw [i32_lt] at a c; simp at a c ⊢; omega
        · rw [if_neg c]; rw [i32_lt] at a c; simp at a c ⊢; omega
    subst eb
    have rg : m37 = 0 ∨ m37 = 1 ∨ m37 = 2 ∨ m37 = 3 ∨ m37 = 4 := by
      simp only [i32_eq]; simp; omega
    clear e37 hb hi
    rcases rg with rfl | rfl | rfl | rfl | rfl
    all_goals
      intro m40 e40 m43 e43; subst e40 e43
      refine own_wk s _ _ hV (by decide) _ fun t1 V1 a4 a3 f0 k0 f1 k1 => ⟨fun _ => ?_, fun q => absurd (by decide) q⟩
      intro m52 e52 m55 e55
      refine own_ev t1 _ _ _ (by decide) ?_ ?_ _ ⟨_, rfl, fun q => absurd q (by decide), fun _ => ?_⟩
      · rw [e52, ← f0]; decide
      · rw [e55, ← k0]; decide
      intro m65 e65 m68 e68 m71 e71; subst e65
      refine own_ev t1 _ _ _ (by decide) ?_ ?_ _ ⟨_, rfl, fun q => absurd q (by decide), fun _ => ?_⟩
      · rw [e68, ← f1]; decide
      · rw [e71, ← k1]; decide
      intro m81 e81; subst e81
      refine own_wk t1 _ _ V1 (by decide) _ fun t2 V2 b4 b3 g0 j0 g1 j1 => ?_
      intro m87 e87; subst e87
      refine ⟨fun _ => ?_, fun q => absurd (by decide) q⟩
      intro m93 e93 m96 e96
      refine own_ev t2 _ _ _ (by decide) ?_ ?_ _ ⟨_, rfl, fun q => absurd q (by decide), fun _ => ?_⟩
      · rw [e93, ← g0]; decide
      · rw [e96, ← j0]; decide
      have E4 : gI t2 4 0 = 0 := by rw [b4, a4, s4]
      have E3 : gI t2 3 0 = gI s 3 0 := by rw [b3, a3]
      refine own_rd t2 _ V2 (by decide) E4 _ (fun nz t3 V3 => ?_) (fun z => ?_)
      all_goals first | exact absurd rfl nz | exact absurd z (by decide) | skip
      intro m109 e109
      refine ⟨fun _ => ?_, fun q => absurd (by first | (rw [e109]; exact (if_neg (by decide)).symm) | (rw [e109, E3, s3 (by decide)]; exact (if_pos (by decide)).symm)) q⟩
      intro m115 e115; subst e115
      first
        | refine own_wk _ _ _ V3 (by decide) _ fun t4 V4 _ _ c0 d0 c1 d1 => ⟨fun _ => ?_, fun q => absurd (by decide) q⟩
        | refine own_wk _ _ _ V2 (by decide) _ fun t4 V4 _ _ c0 d0 c1 d1 => ⟨fun _ => ?_, fun q => absurd (by decide) q⟩
      refine own_ev t4 _ _ _ (by decide) ?_ ?_ _ ⟨_, rfl, fun q => absurd q (by decide), fun _ => ?_⟩
      · rw [← c0]; decide
      · rw [← d0]; decide
      refine own_wr t4 _ _ _ V4 (by decide) (by decide) _ (fun _ t5 V5 _ _ => ?_) (fun z => absurd z (by decide))
      refine ⟨fun _ => ?_, fun q => absurd rfl q⟩
      intro m137 e137 m140 e140 m143 e143 m146 e146; subst e137 e140 e143 e146
      refine own_wk t5 _ _ V5 (by decide) _ fun t6 V6 _ _ y0 u0 y1 u1 => ⟨fun _ => ?_, fun q => absurd (by decide) q⟩
      intro m155 e155 m158 e158
      refine own_ev t6 _ _ _ (by decide) ?_ ?_ _ ⟨_, rfl, fun q => absurd q (by decide), fun _ => ?_⟩
      · rw [e155, ← y0]; decide
      · rw [e158, ← u0]; decide
      intro m168 e168 m171 e171 m174 e174; subst e168
      refine own_ev t6 _ _ _ (by decide) ?_ ?_ _ ⟨_, rfl, by decide⟩
      · rw [e171, ← y1]; decide
      · rw [e174, ← u1]; decide
theorem comes_1 {Post : Tables → Env → Array Value → State → Outcome → State → Prop} (hpost : ∀ tb e args s v u, (limb_1_1.after args s (.returned v) u = true ∧ limb_1_2.after args s (.returned v) u = true ∧ True) → FrameEnd s (.returned v) u (Jvm.fieldLocs frame_1_writes args s ++ Jvm.arrayLocs frame_1_arrays args s ++ Jvm.staticLocs frame_1_statics s) 32 1024 → Post tb e args s (.returned v) u) :
    ArmFor flags0 classFile x code maxLocals ret World_1 tables_1 room_1 Calls_1 rest_1 Pre_1 Post := by
  intro l hfl _ _ p e ha hc hk s m args below hf hA hF happ hP
  obtain ⟨hcalls, hrest, hpre⟩ := hP
  obtain ⟨-, -, -, hnamed, -, -, -, hat⟩ := (Spec.applies_iff hf).mp happ
  obtain ⟨hg, hn⟩ := and_e (Cond.before_iff.mp (show (Jvm.Cond.and given_1 narrow_1).before args s = true from hpre))
  obtain ⟨h1, g0⟩ := and_e hg
  obtain ⟨w0, w1, w2, rfl⟩ : ∃ w0 w1 w2 : Value, args = #[w0, w1, w2] := by
    have hs : args.size = 3 := by simpa [Cond.value, given_1] using h1
    obtain ⟨L⟩ := args
    match L, hs with
    | [w0, w1, w2], _ => exact ⟨w0, w1, w2, rfl⟩
  have hw := fun d (hd : d ∈ tables_1) => atoms_spec (ws := Jvm.Cond.code x code maxLocals ret :: tables_1) hat d (List.mem_cons_of_mem _ hd)
  have hfit : Fit s := fun {y c} hc i hi => by
    obtain ⟨ha, rfl⟩ := Array.getElem?_eq_some_iff.mp hc
    have q := List.all_eq_true.mp ((Array.all_eq_true_iff_forall_mem.mp hF) _ (Array.getElem_mem ha)) i (List.mem_range.mpr hi)
    simpa [Array.getElem?_eq_getElem hi] using q
  obtain ⟨q0, g1⟩ := and_e g0
  obtain ⟨i0, e0⟩ := is_v q0
  obtain rfl : w0 = (.int i0) := Option.some.inj e0
  obtain ⟨q1, g2⟩ := and_e g1
  obtain ⟨i1, e1⟩ := is_v q1
  obtain rfl : w1 = (.int i1) := Option.some.inj e1
  have q2 := g2
  obtain ⟨i2, e2⟩ := is_v q2
  obtain rfl : w2 = (.int i2) := Option.some.inj e2
  obtain ⟨f, w0, hr⟩ := law_run (law_ok i0 i1 i2) (me := lm0) rfl
  have M : MetFree l x (head1 (Jvm.Cond.code x code maxLocals ret :: tables_1) room_1) (fun b U => b = #[.int i0, .int i1, .int i2] ∧ s.Warmed39 U.vm ∧ U.heap = s.heap) (fun _ _ _ _ _ => True) (fun _ U o U' => ∃ u L, o = .returned u ∧ (u = some (.int 1) ∧ Fr s.heap.size L) ∧ FrameEnd U o U' L 32 1024) :=
    law_met (lkC s _ hw) (lkL s _ hw) (sc := none) (a := 0) (me := lm0) rfl l (bytes := code) (chk_ok dk_l0) (as := [.int i0, .int i1, .int i2]) rfl (Nat.le_of_ble_eq_true rfl) hr trivial
  obtain ⟨n, o, h1, h2, h3, _, L, rfl, ⟨rfl, N⟩, hq⟩ := M p e ha hc hk s m _ below hf ((Spec.applies_iff_loose hf).mp happ).1 ⟨rfl, State.Warmed39.refl s, rfl⟩ trivial
  refine ⟨n, _, h1, h2, h3, hpost _ _ _ _ _ _ ⟨Cond.after_iff.mpr rfl, Cond.after_iff.mpr (eq_i res_at (Term.int_eval (1)) rfl), trivial⟩ ⟨hq.1, hq.2.1, (hq.2.2.sift fun y hy => Or.inr (N y hy)).mono (by decide) (by decide)⟩⟩
theorem main_1_1 : Claimed_1_1 := comes_1 fun _ _ _ _ _ _ h hF => ⟨h.1, hF⟩
theorem main_1_2 : Claimed_1_2 := comes_1 fun _ _ _ _ _ _ h hF => ⟨h.2.1, hF⟩
end Jvm.Pilot.@@N@@
namespace Jvm.Pilot.@@N@@
open Jvm Jvm.ClassFile Sem Op Lib Jvm.Free Jvm.Stand Jvm.Pilot.@@N@@.Jvm.D
/-! MADE BY PROGRAM (witnessworld.py) out of the Statement's table words and the real class files: 11 classes; the members and pool entries that the words name. The judged class is class 1, her method 2. -/
namespace start1
open Jvm.ClassFile
def u (s : String) : CpInfo := .utf8 (stringToUtf16 s)
/-- a pool by its gaps: so many unusable entries, then the entry; so many at the end -/
def gap : Nat → List CpInfo → List CpInfo
  | 0, r => r
  | n + 1, r => .unusable :: gap n r
def poolList (es : List (Nat × CpInfo)) (last : Nat) : List CpInfo := es.foldr (fun e r => gap e.1 (e.2 :: r)) (gap last [])
def pool (es : List (Nat × CpInfo)) (last : Nat) : Array CpInfo := ⟨poolList es last⟩
def fileOf (pool : Array CpInfo) (this : Nat) (attrs : Array Attribute := #[]) (ms : Array MethodInfo := #[]) (fl : Nat := 33) (sup : Nat := 0) (ifs : Array Nat := #[]) (fds : Array FieldInfo := #[]) : ClassFile where
  minorVersion := 0
  majorVersion := 65
  constantPool := pool
  accessFlags := fl
  thisClass := this
  superClass := sup
  interfaces := ifs
  fields := fds
  methods := ms
  attributes := attrs
def plain (name : String) (sup : Option ClassId) : Class where
  name := name
  kind := .ordinary
  loader := none
  accessFlags := 33
  super := sup
  interfaces := #[]
  cf := none
  fields := #[]
  methods := #[]
  instanceTypes := #[]
  staticTypes := #[]
  resolved := #[]
  callSites := []
  init := .initialized
  statics := none
  mirror := none

def pool0 : Array CpInfo := pool [(5, u "<init>"), (0, u "()V"), (1, .class_ 10), (1, u "java/lang/Object")] 113

def k0c0 : Code := { maxStack := 0, maxLocals := 1, code := object_method_1_code, exceptionTable := #[], attributes := #[] }
def k0m0 : Method := { name := "<init>", desc := "()V", sig := { parameters := [], returnType := none }, accessFlags := 1, code := some k0c0 }
/-- java/lang/Object -/
def k0 : Class := { plain "java/lang/Object" none with
  accessFlags := 33
  interfaces := #[]
  cf := some (fileOf pool0 8 #[] #[{ accessFlags := 1, nameIndex := 5, descriptorIndex := 6, attributes := #[] }] 33 0 #[] #[])
  fields := #[]
  methods := #[k0m0]
  instanceTypes := #[]
  staticTypes := #[]
  resolved := Array.replicate 124 none
  statics := none }

def pool1 : Array CpInfo := pool [(2, .class_ 4), (1, u "java/lang/Object"), (0, u "<init>"), (0, u "()V"), (0, .methodref 8 9), (0, .class_ 10), (0, .nameAndType 11 12), (0, u "ReadinessPoller"), (0, u "eventFd"), (0, u "(I)I"), (0, .methodref 8 14), (0, .nameAndType 15 12), (0, u "eventMask"), (0, .methodref 8 17), (0, .nameAndType 5 18), (0, u "(III)V"), (0, .methodref 8 20), (0, .nameAndType 21 22), (0, u "createPipe"), (0, u "()I"), (0, .methodref 8 24), (0, .nameAndType 25 26), (0, u "ctlAdd"), (0, u "(III)I"), (0, .methodref 8 28), (0, .nameAndType 29 30), (0, u "write"), (0, u "(II)I"), (0, .methodref 8 32), (0, .nameAndType 33 30), (0, u "wait"), (0, .methodref 35 36), (0, .class_ 37), (0, .nameAndType 38 39), (0, u "ReadinessPollerL3"), (0, u "ev"), (0, u "(LReadinessPoller;III)Z"), (0, .methodref 8 41), (0, .nameAndType 42 12), (0, u "read"), (3, u "law"), (0, u "(III)Z")] 2

def k1m0 : Method := { name := "<init>", desc := "()V", sig := { parameters := [], returnType := none }, accessFlags := 1, code := none }
def k1c1 : Code := { maxStack := 2, maxLocals := 4, code := method_2_code, exceptionTable := #[], attributes := #[] }
def k1m1 : Method := { name := "ev", desc := "(LReadinessPoller;III)Z", sig := { parameters := [(.object "ReadinessPoller"), .int, .int, .int], returnType := some .boolean }, accessFlags := 10, code := some k1c1 }
def k1c2 : Code := { maxStack := 5, maxLocals := 17, code := code, exceptionTable := #[], attributes := #[] }
def k1m2 : Method := { name := "law", desc := "(III)Z", sig := { parameters := [.int, .int, .int], returnType := some .boolean }, accessFlags := 9, code := some k1c2 }
/-- ReadinessPollerL3 -/
def k1 : Class := { plain "ReadinessPollerL3" (some 0) with
  accessFlags := 33
  interfaces := #[]
  cf := some (fileOf pool1 35 #[] #[{ accessFlags := 1, nameIndex := 5, descriptorIndex := 6, attributes := #[] }, { accessFlags := 10, nameIndex := 38, descriptorIndex := 39, attributes := #[] }, { accessFlags := 9, nameIndex := 46, descriptorIndex := 47, attributes := #[] }] 33 2 #[] #[])
  fields := #[]
  methods := #[k1m0, k1m1, k1m2]
  instanceTypes := #[]
  staticTypes := #[]
  resolved := Array.replicate 50 none
  statics := none }

def pool2 : Array CpInfo := pool [(1, .methodref 2 3), (0, .class_ 4), (0, .nameAndType 5 6), (0, u "java/lang/Object"), (0, u "<init>"), (0, u "()V"), (0, .fieldref 8 9), (0, .class_ 10), (0, .nameAndType 11 12), (0, u "ReadinessPoller"), (0, u "readOpen"), (0, u "[Z"), (0, .fieldref 8 14), (0, .nameAndType 15 12), (0, u "writeOpen"), (0, .fieldref 8 17), (0, .nameAndType 18 19), (0, u "buf"), (0, u "[I"), (0, .fieldref 8 21), (0, .nameAndType 22 19), (0, u "head"), (0, .fieldref 8 24), (0, .nameAndType 25 19), (0, u "count"), (0, .fieldref 8 27), (0, .nameAndType 28 12), (0, u "regged"), (0, .fieldref 8 30), (0, .nameAndType 31 19), (0, u "word"), (0, .fieldref 8 33), (0, .nameAndType 34 12), (0, u "enabled"), (0, .fieldref 8 36), (0, .nameAndType 37 19), (0, u "pend"), (0, .fieldref 8 39), (0, .nameAndType 40 19), (0, u "resFd"), (0, .fieldref 8 42), (0, .nameAndType 43 19), (0, u "resMask"), (0, .methodref 8 45), (0, .nameAndType 46 47), (0, u "clamp"), (0, u "(III)I"), (0, .fieldref 8 49), (0, .nameAndType 50 51), (0, u "nPipes"), (0, u "I"), (0, .fieldref 8 53), (0, .nameAndType 54 51), (0, u "cap"), (0, .fieldref 8 56), (0, .nameAndType 57 51), (0, u "nPolls"), (0, .fieldref 8 59), (0, .nameAndType 60 51), (0, u "resN"), (0, .methodref 8 62), (0, .nameAndType 63 64), (0, u "rawReady"), (0, u "(I)I"), (0, .methodref 8 66), (0, .nameAndType 67 64), (0, u "watched"), (0, .methodref 8 69), (0, .nameAndType 70 71), (0, u "slot"), (0, u "(II)I"), (3, u "(I)V"), (0, .methodref 8 77), (0, .nameAndType 78 79), (0, u "isOpen"), (0, u "(I)Z"), (0, .methodref 8 81), (0, .nameAndType 82 79), (0, u "validQ"), (0, .methodref 8 84), (0, .nameAndType 85 86), (0, u "edgeUpdate"), (0, u "(II)V"), (3, .methodref 8 91), (0, .nameAndType 92 79), (0, u "validWord"), (0, .methodref 8 94), (0, .nameAndType 95 96), (0, u "arm"), (0, u "(III)V"), (0, .methodref 8 98), (0, .nameAndType 99 71), (0, u "peek"), (0, .methodref 8 101), (0, .nameAndType 102 75), (0, u "consume"), (3, u "IN"), (2, u "OUT"), (1, u "HUP"), (1, u "ERR"), (1, u "EDGE"), (1, u "ONESHOT"), (1, u "DISABLED"), (1, u "OK"), (1, u "ERR_BADF"), (1, u "ERR_AGAIN"), (1, u "EOF"), (1, u "ERR_PIPE"), (1, u "ERR_EXIST"), (1, u "ERR_INVAL"), (1, u "ERR_NOENT"), (1, u "ERR_NOPIPE"), (4, u "createPipe"), (0, u "()I"), (0, u "write"), (0, u "read"), (1, u "ctlAdd"), (2, u "wait"), (0, u "eventFd"), (0, u "eventMask")] 7

def k2c0 : Code := { maxStack := 5, maxLocals := 4, code := prog_1_method_1_code, exceptionTable := #[], attributes := #[] }
def k2m0 : Method := { name := "<init>", desc := "(III)V", sig := { parameters := [.int, .int, .int], returnType := none }, accessFlags := 1, code := some k2c0 }
def k2c1 : Code := { maxStack := 2, maxLocals := 4, code := prog_1_method_2_code, exceptionTable := #[], attributes := #[] }
def k2m1 : Method := { name := "clamp", desc := "(III)I", sig := { parameters := [.int, .int, .int], returnType := some .int }, accessFlags := 2, code := some k2c1 }
def k2c2 : Code := { maxStack := 3, maxLocals := 3, code := prog_1_method_3_code, exceptionTable := #[], attributes := #[] }
def k2m2 : Method := { name := "isOpen", desc := "(I)Z", sig := { parameters := [.int], returnType := some .boolean }, accessFlags := 2, code := some k2c2 }
def k2c3 : Code := { maxStack := 2, maxLocals := 4, code := prog_1_method_4_code, exceptionTable := #[], attributes := #[] }
def k2m3 : Method := { name := "rawReady", desc := "(I)I", sig := { parameters := [.int], returnType := some .int }, accessFlags := 2, code := some k2c3 }
def k2c4 : Code := { maxStack := 2, maxLocals := 2, code := prog_1_method_5_code, exceptionTable := #[], attributes := #[] }
def k2m4 : Method := { name := "watched", desc := "(I)I", sig := { parameters := [.int], returnType := some .int }, accessFlags := 2, code := some k2c4 }
def k2c5 : Code := { maxStack := 2, maxLocals := 2, code := prog_1_method_6_code, exceptionTable := #[], attributes := #[] }
def k2m5 : Method := { name := "validQ", desc := "(I)Z", sig := { parameters := [.int], returnType := some .boolean }, accessFlags := 2, code := some k2c5 }
def k2c6 : Code := { maxStack := 2, maxLocals := 2, code := prog_1_method_7_code, exceptionTable := #[], attributes := #[] }
def k2m6 : Method := { name := "validWord", desc := "(I)Z", sig := { parameters := [.int], returnType := some .boolean }, accessFlags := 2, code := some k2c6 }
def k2c7 : Code := { maxStack := 2, maxLocals := 3, code := prog_1_method_8_code, exceptionTable := #[], attributes := #[] }
def k2m7 : Method := { name := "slot", desc := "(II)I", sig := { parameters := [.int, .int], returnType := some .int }, accessFlags := 2, code := some k2c7 }
def k2c8 : Code := { maxStack := 4, maxLocals := 3, code := prog_1_method_9_code, exceptionTable := #[], attributes := #[] }
def k2m8 : Method := { name := "peek", desc := "(II)I", sig := { parameters := [.int, .int], returnType := some .int }, accessFlags := 2, code := some k2c8 }
def k2c9 : Code := { maxStack := 5, maxLocals := 4, code := prog_1_method_10_code, exceptionTable := #[], attributes := #[] }
def k2m9 : Method := { name := "arm", desc := "(III)V", sig := { parameters := [.int, .int, .int], returnType := none }, accessFlags := 2, code := some k2c9 }
def k2c10 : Code := { maxStack := 6, maxLocals := 7, code := prog_1_method_13_code, exceptionTable := #[], attributes := #[] }
def k2m10 : Method := { name := "edgeUpdate", desc := "(II)V", sig := { parameters := [.int, .int], returnType := none }, accessFlags := 2, code := some k2c10 }
def k2c11 : Code := { maxStack := 3, maxLocals := 2, code := prog_1_method_15_code, exceptionTable := #[], attributes := #[] }
def k2m11 : Method := { name := "createPipe", desc := "()I", sig := { parameters := [], returnType := some .int }, accessFlags := 1, code := some k2c11 }
def k2c12 : Code := { maxStack := 4, maxLocals := 7, code := prog_1_method_16_code, exceptionTable := #[], attributes := #[] }
def k2m12 : Method := { name := "write", desc := "(II)I", sig := { parameters := [.int, .int], returnType := some .int }, accessFlags := 1, code := some k2c12 }
def k2c13 : Code := { maxStack := 4, maxLocals := 6, code := prog_1_method_17_code, exceptionTable := #[], attributes := #[] }
def k2m13 : Method := { name := "read", desc := "(I)I", sig := { parameters := [.int], returnType := some .int }, accessFlags := 1, code := some k2c13 }
def k2c14 : Code := { maxStack := 4, maxLocals := 5, code := prog_1_method_19_code, exceptionTable := #[], attributes := #[] }
def k2m14 : Method := { name := "ctlAdd", desc := "(III)I", sig := { parameters := [.int, .int, .int], returnType := some .int }, accessFlags := 1, code := some k2c14 }
def k2c15 : Code := { maxStack := 3, maxLocals := 9, code := prog_1_method_22_code, exceptionTable := #[], attributes := #[] }
def k2m15 : Method := { name := "wait", desc := "(II)I", sig := { parameters := [.int, .int], returnType := some .int }, accessFlags := 1, code := some k2c15 }
def k2c16 : Code := { maxStack := 3, maxLocals := 2, code := prog_1_method_23_code, exceptionTable := #[], attributes := #[] }
def k2m16 : Method := { name := "consume", desc := "(I)V", sig := { parameters := [.int], returnType := none }, accessFlags := 2, code := some k2c16 }
def k2c17 : Code := { maxStack := 2, maxLocals := 2, code := prog_1_method_24_code, exceptionTable := #[], attributes := #[] }
def k2m17 : Method := { name := "eventFd", desc := "(I)I", sig := { parameters := [.int], returnType := some .int }, accessFlags := 1, code := some k2c17 }
def k2c18 : Code := { maxStack := 2, maxLocals := 2, code := prog_1_method_25_code, exceptionTable := #[], attributes := #[] }
def k2m18 : Method := { name := "eventMask", desc := "(I)I", sig := { parameters := [.int], returnType := some .int }, accessFlags := 1, code := some k2c18 }
/-- ReadinessPoller -/
def k2 : Class := { plain "ReadinessPoller" (some 0) with
  accessFlags := 49
  interfaces := #[]
  cf := some (fileOf pool2 8 #[] #[{ accessFlags := 1, nameIndex := 5, descriptorIndex := 96, attributes := #[] }, { accessFlags := 2, nameIndex := 46, descriptorIndex := 47, attributes := #[] }, { accessFlags := 2, nameIndex := 78, descriptorIndex := 79, attributes := #[] }, { accessFlags := 2, nameIndex := 63, descriptorIndex := 64, attributes := #[] }, { accessFlags := 2, nameIndex := 67, descriptorIndex := 64, attributes := #[] }, { accessFlags := 2, nameIndex := 82, descriptorIndex := 79, attributes := #[] }, { accessFlags := 2, nameIndex := 92, descriptorIndex := 79, attributes := #[] }, { accessFlags := 2, nameIndex := 70, descriptorIndex := 71, attributes := #[] }, { accessFlags := 2, nameIndex := 99, descriptorIndex := 71, attributes := #[] }, { accessFlags := 2, nameIndex := 95, descriptorIndex := 96, attributes := #[] }, { accessFlags := 2, nameIndex := 85, descriptorIndex := 86, attributes := #[] }, { accessFlags := 1, nameIndex := 142, descriptorIndex := 143, attributes := #[] }, { accessFlags := 1, nameIndex := 144, descriptorIndex := 71, attributes := #[] }, { accessFlags := 1, nameIndex := 145, descriptorIndex := 64, attributes := #[] }, { accessFlags := 1, nameIndex := 147, descriptorIndex := 47, attributes := #[] }, { accessFlags := 1, nameIndex := 150, descriptorIndex := 71, attributes := #[] }, { accessFlags := 2, nameIndex := 102, descriptorIndex := 75, attributes := #[] }, { accessFlags := 1, nameIndex := 151, descriptorIndex := 64, attributes := #[] }, { accessFlags := 1, nameIndex := 152, descriptorIndex := 64, attributes := #[] }] 49 2 #[] #[{ accessFlags := 25, nameIndex := 106, descriptorIndex := 51, attributes := #[] }, { accessFlags := 25, nameIndex := 109, descriptorIndex := 51, attributes := #[] }, { accessFlags := 25, nameIndex := 111, descriptorIndex := 51, attributes := #[] }, { accessFlags := 25, nameIndex := 113, descriptorIndex := 51, attributes := #[] }, { accessFlags := 25, nameIndex := 115, descriptorIndex := 51, attributes := #[] }, { accessFlags := 25, nameIndex := 117, descriptorIndex := 51, attributes := #[] }, { accessFlags := 25, nameIndex := 119, descriptorIndex := 51, attributes := #[] }, { accessFlags := 25, nameIndex := 121, descriptorIndex := 51, attributes := #[] }, { accessFlags := 25, nameIndex := 123, descriptorIndex := 51, attributes := #[] }, { accessFlags := 25, nameIndex := 125, descriptorIndex := 51, attributes := #[] }, { accessFlags := 25, nameIndex := 127, descriptorIndex := 51, attributes := #[] }, { accessFlags := 25, nameIndex := 129, descriptorIndex := 51, attributes := #[] }, { accessFlags := 25, nameIndex := 131, descriptorIndex := 51, attributes := #[] }, { accessFlags := 25, nameIndex := 133, descriptorIndex := 51, attributes := #[] }, { accessFlags := 25, nameIndex := 135, descriptorIndex := 51, attributes := #[] }, { accessFlags := 25, nameIndex := 137, descriptorIndex := 51, attributes := #[] }, { accessFlags := 2, nameIndex := 50, descriptorIndex := 51, attributes := #[] }, { accessFlags := 2, nameIndex := 54, descriptorIndex := 51, attributes := #[] }, { accessFlags := 2, nameIndex := 57, descriptorIndex := 51, attributes := #[] }, { accessFlags := 2, nameIndex := 11, descriptorIndex := 12, attributes := #[] }, { accessFlags := 2, nameIndex := 15, descriptorIndex := 12, attributes := #[] }, { accessFlags := 2, nameIndex := 18, descriptorIndex := 19, attributes := #[] }, { accessFlags := 2, nameIndex := 22, descriptorIndex := 19, attributes := #[] }, { accessFlags := 2, nameIndex := 25, descriptorIndex := 19, attributes := #[] }, { accessFlags := 2, nameIndex := 28, descriptorIndex := 12, attributes := #[] }, { accessFlags := 2, nameIndex := 31, descriptorIndex := 19, attributes := #[] }, { accessFlags := 2, nameIndex := 34, descriptorIndex := 12, attributes := #[] }, { accessFlags := 2, nameIndex := 37, descriptorIndex := 19, attributes := #[] }, { accessFlags := 2, nameIndex := 40, descriptorIndex := 19, attributes := #[] }, { accessFlags := 2, nameIndex := 43, descriptorIndex := 19, attributes := #[] }, { accessFlags := 2, nameIndex := 60, descriptorIndex := 51, attributes := #[] }])
  fields := #[{ name := "IN", type := .int, accessFlags := 25, slot := 0, constantValue := 0 }, { name := "OUT", type := .int, accessFlags := 25, slot := 1, constantValue := 0 }, { name := "HUP", type := .int, accessFlags := 25, slot := 2, constantValue := 0 }, { name := "ERR", type := .int, accessFlags := 25, slot := 3, constantValue := 0 }, { name := "EDGE", type := .int, accessFlags := 25, slot := 4, constantValue := 0 }, { name := "ONESHOT", type := .int, accessFlags := 25, slot := 5, constantValue := 0 }, { name := "DISABLED", type := .int, accessFlags := 25, slot := 6, constantValue := 0 }, { name := "OK", type := .int, accessFlags := 25, slot := 7, constantValue := 0 }, { name := "ERR_BADF", type := .int, accessFlags := 25, slot := 8, constantValue := 0 }, { name := "ERR_AGAIN", type := .int, accessFlags := 25, slot := 9, constantValue := 0 }, { name := "EOF", type := .int, accessFlags := 25, slot := 10, constantValue := 0 }, { name := "ERR_PIPE", type := .int, accessFlags := 25, slot := 11, constantValue := 0 }, { name := "ERR_EXIST", type := .int, accessFlags := 25, slot := 12, constantValue := 0 }, { name := "ERR_INVAL", type := .int, accessFlags := 25, slot := 13, constantValue := 0 }, { name := "ERR_NOENT", type := .int, accessFlags := 25, slot := 14, constantValue := 0 }, { name := "ERR_NOPIPE", type := .int, accessFlags := 25, slot := 15, constantValue := 0 }, { name := "nPipes", type := .int, accessFlags := 2, slot := 0, constantValue := 0 }, { name := "cap", type := .int, accessFlags := 2, slot := 1, constantValue := 0 }, { name := "nPolls", type := .int, accessFlags := 2, slot := 2, constantValue := 0 }, { name := "readOpen", type := (.array .boolean), accessFlags := 2, slot := 3, constantValue := 0 }, { name := "writeOpen", type := (.array .boolean), accessFlags := 2, slot := 4, constantValue := 0 }, { name := "buf", type := (.array .int), accessFlags := 2, slot := 5, constantValue := 0 }, { name := "head", type := (.array .int), accessFlags := 2, slot := 6, constantValue := 0 }, { name := "count", type := (.array .int), accessFlags := 2, slot := 7, constantValue := 0 }, { name := "regged", type := (.array .boolean), accessFlags := 2, slot := 8, constantValue := 0 }, { name := "word", type := (.array .int), accessFlags := 2, slot := 9, constantValue := 0 }, { name := "enabled", type := (.array .boolean), accessFlags := 2, slot := 10, constantValue := 0 }, { name := "pend", type := (.array .int), accessFlags := 2, slot := 11, constantValue := 0 }, { name := "resFd", type := (.array .int), accessFlags := 2, slot := 12, constantValue := 0 }, { name := "resMask", type := (.array .int), accessFlags := 2, slot := 13, constantValue := 0 }, { name := "resN", type := .int, accessFlags := 2, slot := 14, constantValue := 0 }]
  methods := #[k2m0, k2m1, k2m2, k2m3, k2m4, k2m5, k2m6, k2m7, k2m8, k2m9, k2m10, k2m11, k2m12, k2m13, k2m14, k2m15, k2m16, k2m17, k2m18]
  instanceTypes := #[.int, .int, .int, (.array .boolean), (.array .boolean), (.array .int), (.array .int), (.array .int), (.array .boolean), (.array .int), (.array .boolean), (.array .int), (.array .int), (.array .int), .int]
  staticTypes := #[.int, .int, .int, .int, .int, .int, .int, .int, .int, .int, .int, .int, .int, .int, .int, .int]
  resolved := Array.replicate 160 none
  statics := none }

def pool3 : Array CpInfo := pool [(1, u "java/lang/Cloneable"), (0, .class_ 1), (0, u "java/lang/Object"), (0, .class_ 3)] 3

/-- java/lang/Cloneable -/
def k3 : Class := { plain "java/lang/Cloneable" (some 0) with
  accessFlags := 1537
  interfaces := #[]
  cf := some (fileOf pool3 2 #[] #[] 1537 4 #[] #[])
  fields := #[]
  methods := #[]
  instanceTypes := #[]
  staticTypes := #[]
  resolved := Array.replicate 8 none
  statics := none }

def pool4 : Array CpInfo := pool [(1, u "java/io/Serializable"), (0, .class_ 1), (0, u "java/lang/Object"), (0, .class_ 3)] 3

/-- java/io/Serializable -/
def k4 : Class := { plain "java/io/Serializable" (some 0) with
  accessFlags := 1537
  interfaces := #[]
  cf := some (fileOf pool4 2 #[] #[] 1537 4 #[] #[])
  fields := #[]
  methods := #[]
  instanceTypes := #[]
  staticTypes := #[]
  resolved := Array.replicate 8 none
  statics := none }

/-- the primitive boolean -/
def k5 : Class := { plain "boolean" none with kind := .primitive 'Z', accessFlags := 0x411 }
/-- [Z -/
def k6 : Class := { plain "[Z" (some 0) with kind := .array 5 .boolean, interfaces := #[3, 4], accessFlags := 1041 }

/-- the primitive byte -/
def k7 : Class := { plain "byte" none with kind := .primitive 'B', accessFlags := 0x411 }
/-- [B -/
def k8 : Class := { plain "[B" (some 0) with kind := .array 7 .byte, interfaces := #[3, 4], accessFlags := 1041 }

/-- the primitive int -/
def k9 : Class := { plain "int" none with kind := .primitive 'I', accessFlags := 0x411 }
/-- [I -/
def k10 : Class := { plain "[I" (some 0) with kind := .array 9 .int, interfaces := #[3, 4], accessFlags := 1041 }

def heap : Heap := #[]
def classes : Array Class := #[k0, k1, k2, k3, k4, k5, k6, k7, k8, k9, k10]
def interned : List (Array UInt16 × Addr) := []
def slotsUsed : Nat := 0
def theMethod : MethodId := ⟨1, 2⟩
def args0 : Array Value := #[.int 5, .int 5, .int 5]
def aboutOver (below : List Frame) : State where
  vm := { classes := classes, interned := interned.toArray }
  heap := heap
  slotsUsed := slotsUsed
  threads := #[{ frames := .invoking theMethod args0 :: below }]
def below0 : List Frame := [.native { method := ⟨0, 0⟩, args := #[] }]
def about1 : State := aboutOver below0
def p0 : Program := .bare "" "" ""
def e0 : Env := launch0.env 0 0 0
theorem w_frames : about1.frames = Frame.invoking theMethod args0 :: below0 := rfl
set_option maxRecDepth 65536 in
theorem w_args : argsFit about1.vm theMethod args0 = true := by decide +kernel
set_option maxRecDepth 65536 in
theorem w_heap : heapFits about1 = true := by decide +kernel
set_option maxRecDepth 65536 in
theorem w_runnable : about1.curStatus? = some .runnable := by decide +kernel
set_option maxRecDepth 65536 in
theorem w_alone : about1.alone = true := by decide +kernel
set_option maxRecDepth 65536 in
theorem w_named : about1.methodNamed? x = some theMethod := by decide +kernel
set_option maxRecDepth 65536 in
theorem w_hears : about1.hears theMethod below0 = true := by decide +kernel
set_option maxRecDepth 65536 in
theorem w_ripe : about1.ripe theMethod args0 below0 = true := by decide +kernel
theorem w_running : about1.status = .running := rfl
set_option maxRecDepth 65536 in
theorem w_room : about1.hasRoom e0.platform room_1 = true :=
  launch0.hasRoom_least _ room_1 (by decide +kernel) (by decide +kernel) (by decide +kernel) (by decide +kernel) (by decide +kernel) (by decide +kernel)
theorem allAtoms_all (ts : List Jvm.Cond) (a : Array Jvm.Value) (st : Jvm.State) : (allAtoms ts).before a st = ts.all (fun c => c.before a st) := by
  induction ts with
  | nil => rfl
  | cons c t ih =>
    show (Jvm.Cond.and c (allAtoms t)).before a st = _
    rw [Jvm.Cond.before_and, ih, List.all_cons]
def words1 : List Jvm.Cond := Jvm.Cond.code x code maxLocals ret :: tables_1
/-- a 'code' word, met by the world's own term for the bytes: nothing is compared byte by byte -/
theorem code_word {y : MethodName} {bytes : ByteArray} {mx : Nat} {rt : Option FieldType} {a : Array Value} {s : State} {m : MethodId} {meth : Method} {c : Code} (h1 : s.methodNamed? y = some m) (h2 : s.vm.method? m = some meth) (h3 : meth.code = some c) (h4 : c.code = bytes)
    (h5 : (c.maxLocals == mx && c.exceptionTable.isEmpty && decide (c.maxStack ≤ mostOperands) && decide (meth.sig.returnType = rt) && !meth.locks && decide (parseMethodDescriptor y.desc = some meth.sig)) = true) : (Jvm.Cond.code y bytes mx rt).before a s = true := by
  simp only [Bool.and_eq_true, beq_iff_eq, Bool.not_eq_true', decide_eq_true_eq] at h5
  obtain ⟨⟨⟨⟨⟨g1, g2⟩, g3⟩, g4⟩, g5⟩, g6⟩ := h5
  simp [Cond.before, Cond.holds, Cond.value, h1, h2, h3, h4, g1, g2, g3, g4, g5, g6]
def isCode : Jvm.Cond → Bool
  | .code _ _ _ _ => true
  | _ => false
theorem all_split {L : List Jvm.Cond} {P : Jvm.Cond → Bool} (h1 : L.all (fun c => isCode c || P c) = true) (h2 : ∀ c ∈ L.filter isCode, P c = true) : L.all P = true := by
  refine List.all_eq_true.mpr fun c hc => ?_
  have h := List.all_eq_true.mp h1 c hc
  rcases Bool.eq_false_or_eq_true (isCode c) with hi | hi
  · exact h2 c (List.mem_filter.mpr ⟨hc, hi⟩)
  · simpa [hi] using h
set_option maxRecDepth 65536 in
theorem w_c0 : (Jvm.Cond.code x code maxLocals ret).before args0 about1 = true := code_word (m := ⟨1, 2⟩) (meth := k1m2) (c := k1c2) (by decide +kernel) rfl rfl rfl (by decide +kernel)
set_option maxRecDepth 65536 in
theorem w_c1 : (Jvm.Cond.code ({ cls := "ReadinessPoller", name := "<init>", desc := "(III)V" } : Jvm.MethodName) prog_1_method_1_code (4 : Nat) (Option.none : Option Jvm.ClassFile.FieldType)).before args0 about1 = true := code_word (m := ⟨2, 0⟩) (meth := k2m0) (c := k2c0) (by decide +kernel) rfl rfl rfl (by decide +kernel)
set_option maxRecDepth 65536 in
theorem w_c2 : (Jvm.Cond.code ({ cls := "java/lang/Object", name := "<init>", desc := "()V" } : Jvm.MethodName) object_method_1_code (1 : Nat) (Option.none : Option Jvm.ClassFile.FieldType)).before args0 about1 = true := code_word (m := ⟨0, 0⟩) (meth := k0m0) (c := k0c0) (by decide +kernel) rfl rfl rfl (by decide +kernel)
set_option maxRecDepth 65536 in
theorem w_c3 : (Jvm.Cond.code ({ cls := "ReadinessPoller", name := "clamp", desc := "(III)I" } : Jvm.MethodName) prog_1_method_2_code (4 : Nat) (Option.some Jvm.ClassFile.FieldType.int)).before args0 about1 = true := code_word (m := ⟨2, 1⟩) (meth := k2m1) (c := k2c1) (by decide +kernel) rfl rfl rfl (by decide +kernel)
set_option maxRecDepth 65536 in
theorem w_c4 : (Jvm.Cond.code ({ cls := "ReadinessPoller", name := "createPipe", desc := "()I" } : Jvm.MethodName) prog_1_method_15_code (2 : Nat) (Option.some Jvm.ClassFile.FieldType.int)).before args0 about1 = true := code_word (m := ⟨2, 11⟩) (meth := k2m11) (c := k2c11) (by decide +kernel) rfl rfl rfl (by decide +kernel)
set_option maxRecDepth 65536 in
theorem w_c5 : (Jvm.Cond.code ({ cls := "ReadinessPoller", name := "ctlAdd", desc := "(III)I" } : Jvm.MethodName) prog_1_method_19_code (5 : Nat) (Option.some Jvm.ClassFile.FieldType.int)).before args0 about1 = true := code_word (m := ⟨2, 14⟩) (meth := k2m14) (c := k2c14) (by decide +kernel) rfl rfl rfl (by decide +kernel)
set_option maxRecDepth 65536 in
theorem w_c6 : (Jvm.Cond.code ({ cls := "ReadinessPoller", name := "validQ", desc := "(I)Z" } : Jvm.MethodName) prog_1_method_6_code (2 : Nat) (Option.some Jvm.ClassFile.FieldType.boolean)).before args0 about1 = true := code_word (m := ⟨2, 5⟩) (meth := k2m5) (c := k2c5) (by decide +kernel) rfl rfl rfl (by decide +kernel)
set_option maxRecDepth 65536 in
theorem w_c7 : (Jvm.Cond.code ({ cls := "ReadinessPoller", name := "validWord", desc := "(I)Z" } : Jvm.MethodName) prog_1_method_7_code (2 : Nat) (Option.some Jvm.ClassFile.FieldType.boolean)).before args0 about1 = true := code_word (m := ⟨2, 6⟩) (meth := k2m6) (c := k2c6) (by decide +kernel) rfl rfl rfl (by decide +kernel)
set_option maxRecDepth 65536 in
theorem w_c8 : (Jvm.Cond.code ({ cls := "ReadinessPoller", name := "isOpen", desc := "(I)Z" } : Jvm.MethodName) prog_1_method_3_code (3 : Nat) (Option.some Jvm.ClassFile.FieldType.boolean)).before args0 about1 = true := code_word (m := ⟨2, 2⟩) (meth := k2m2) (c := k2c2) (by decide +kernel) rfl rfl rfl (by decide +kernel)
set_option maxRecDepth 65536 in
theorem w_c9 : (Jvm.Cond.code ({ cls := "ReadinessPoller", name := "slot", desc := "(II)I" } : Jvm.MethodName) prog_1_method_8_code (3 : Nat) (Option.some Jvm.ClassFile.FieldType.int)).before args0 about1 = true := code_word (m := ⟨2, 7⟩) (meth := k2m7) (c := k2c7) (by decide +kernel) rfl rfl rfl (by decide +kernel)
set_option maxRecDepth 65536 in
theorem w_c10 : (Jvm.Cond.code ({ cls := "ReadinessPoller", name := "arm", desc := "(III)V" } : Jvm.MethodName) prog_1_method_10_code (4 : Nat) (Option.none : Option Jvm.ClassFile.FieldType)).before args0 about1 = true := code_word (m := ⟨2, 9⟩) (meth := k2m9) (c := k2c9) (by decide +kernel) rfl rfl rfl (by decide +kernel)
set_option maxRecDepth 65536 in
theorem w_c11 : (Jvm.Cond.code ({ cls := "ReadinessPoller", name := "rawReady", desc := "(I)I" } : Jvm.MethodName) prog_1_method_4_code (4 : Nat) (Option.some Jvm.ClassFile.FieldType.int)).before args0 about1 = true := code_word (m := ⟨2, 3⟩) (meth := k2m3) (c := k2c3) (by decide +kernel) rfl rfl rfl (by decide +kernel)
set_option maxRecDepth 65536 in
theorem w_c12 : (Jvm.Cond.code ({ cls := "ReadinessPoller", name := "watched", desc := "(I)I" } : Jvm.MethodName) prog_1_method_5_code (2 : Nat) (Option.some Jvm.ClassFile.FieldType.int)).before args0 about1 = true := code_word (m := ⟨2, 4⟩) (meth := k2m4) (c := k2c4) (by decide +kernel) rfl rfl rfl (by decide +kernel)
set_option maxRecDepth 65536 in
theorem w_c13 : (Jvm.Cond.code ({ cls := "ReadinessPoller", name := "wait", desc := "(II)I" } : Jvm.MethodName) prog_1_method_22_code (9 : Nat) (Option.some Jvm.ClassFile.FieldType.int)).before args0 about1 = true := code_word (m := ⟨2, 15⟩) (meth := k2m15) (c := k2c15) (by decide +kernel) rfl rfl rfl (by decide +kernel)
set_option maxRecDepth 65536 in
theorem w_c14 : (Jvm.Cond.code ({ cls := "ReadinessPoller", name := "peek", desc := "(II)I" } : Jvm.MethodName) prog_1_method_9_code (3 : Nat) (Option.some Jvm.ClassFile.FieldType.int)).before args0 about1 = true := code_word (m := ⟨2, 8⟩) (meth := k2m8) (c := k2c8) (by decide +kernel) rfl rfl rfl (by decide +kernel)
set_option maxRecDepth 65536 in
theorem w_c15 : (Jvm.Cond.code ({ cls := "ReadinessPoller", name := "consume", desc := "(I)V" } : Jvm.MethodName) prog_1_method_23_code (2 : Nat) (Option.none : Option Jvm.ClassFile.FieldType)).before args0 about1 = true := code_word (m := ⟨2, 16⟩) (meth := k2m16) (c := k2c16) (by decide +kernel) rfl rfl rfl (by decide +kernel)
set_option maxRecDepth 65536 in
theorem w_c16 : (Jvm.Cond.code ({ cls := "ReadinessPollerL3", name := "ev", desc := "(LReadinessPoller;III)Z" } : Jvm.MethodName) method_2_code (4 : Nat) (Option.some Jvm.ClassFile.FieldType.boolean)).before args0 about1 = true := code_word (m := ⟨1, 1⟩) (meth := k1m1) (c := k1c1) (by decide +kernel) rfl rfl rfl (by decide +kernel)
set_option maxRecDepth 65536 in
theorem w_c17 : (Jvm.Cond.code ({ cls := "ReadinessPoller", name := "eventFd", desc := "(I)I" } : Jvm.MethodName) prog_1_method_24_code (2 : Nat) (Option.some Jvm.ClassFile.FieldType.int)).before args0 about1 = true := code_word (m := ⟨2, 17⟩) (meth := k2m17) (c := k2c17) (by decide +kernel) rfl rfl rfl (by decide +kernel)
set_option maxRecDepth 65536 in
theorem w_c18 : (Jvm.Cond.code ({ cls := "ReadinessPoller", name := "eventMask", desc := "(I)I" } : Jvm.MethodName) prog_1_method_25_code (2 : Nat) (Option.some Jvm.ClassFile.FieldType.int)).before args0 about1 = true := code_word (m := ⟨2, 18⟩) (meth := k2m18) (c := k2c18) (by decide +kernel) rfl rfl rfl (by decide +kernel)
set_option maxRecDepth 65536 in
theorem w_c19 : (Jvm.Cond.code ({ cls := "ReadinessPoller", name := "read", desc := "(I)I" } : Jvm.MethodName) prog_1_method_17_code (6 : Nat) (Option.some Jvm.ClassFile.FieldType.int)).before args0 about1 = true := code_word (m := ⟨2, 13⟩) (meth := k2m13) (c := k2c13) (by decide +kernel) rfl rfl rfl (by decide +kernel)
set_option maxRecDepth 65536 in
theorem w_c20 : (Jvm.Cond.code ({ cls := "ReadinessPoller", name := "write", desc := "(II)I" } : Jvm.MethodName) prog_1_method_16_code (7 : Nat) (Option.some Jvm.ClassFile.FieldType.int)).before args0 about1 = true := code_word (m := ⟨2, 12⟩) (meth := k2m12) (c := k2c12) (by decide +kernel) rfl rfl rfl (by decide +kernel)
set_option maxRecDepth 65536 in
theorem w_c21 : (Jvm.Cond.code ({ cls := "ReadinessPoller", name := "edgeUpdate", desc := "(II)V" } : Jvm.MethodName) prog_1_method_13_code (7 : Nat) (Option.none : Option Jvm.ClassFile.FieldType)).before args0 about1 = true := code_word (m := ⟨2, 10⟩) (meth := k2m10) (c := k2c10) (by decide +kernel) rfl rfl rfl (by decide +kernel)
def codes1 : List Jvm.Cond := [Jvm.Cond.code x code maxLocals ret, Jvm.Cond.code ({ cls := "ReadinessPoller", name := "<init>", desc := "(III)V" } : Jvm.MethodName) prog_1_method_1_code (4 : Nat) (Option.none : Option Jvm.ClassFile.FieldType), Jvm.Cond.code ({ cls := "java/lang/Object", name := "<init>", desc := "()V" } : Jvm.MethodName) object_method_1_code (1 : Nat) (Option.none : Option Jvm.ClassFile.FieldType), Jvm.Cond.code ({ cls := "ReadinessPoller", name := "clamp", desc := "(III)I" } : Jvm.MethodName) prog_1_method_2_code (4 : Nat) (Option.some Jvm.ClassFile.FieldType.int), Jvm.Cond.code ({ cls := "ReadinessPoller", name := "createPipe", desc := "()I" } : Jvm.MethodName) prog_1_method_15_code (2 : Nat) (Option.some Jvm.ClassFile.FieldType.int), Jvm.Cond.code ({ cls := "ReadinessPoller", name := "ctlAdd", desc := "(III)I" } : Jvm.MethodName) prog_1_method_19_code (5 : Nat) (Option.some Jvm.ClassFile.FieldType.int), Jvm.Cond.code ({ cls := "ReadinessPoller", name := "validQ", desc := "(I)Z" } : Jvm.MethodName) prog_1_method_6_code (2 : Nat) (Option.some Jvm.ClassFile.FieldType.boolean), Jvm.Cond.code ({ cls := "ReadinessPoller", name := "validWord", desc := "(I)Z" } : Jvm.MethodName) prog_1_method_7_code (2 : Nat) (Option.some Jvm.ClassFile.FieldType.boolean), Jvm.Cond.code ({ cls := "ReadinessPoller", name := "isOpen", desc := "(I)Z" } : Jvm.MethodName) prog_1_method_3_code (3 : Nat) (Option.some Jvm.ClassFile.FieldType.boolean), Jvm.Cond.code ({ cls := "ReadinessPoller", name := "slot", desc := "(II)I" } : Jvm.MethodName) prog_1_method_8_code (3 : Nat) (Option.some Jvm.ClassFile.FieldType.int), Jvm.Cond.code ({ cls := "ReadinessPoller", name := "arm", desc := "(III)V" } : Jvm.MethodName) prog_1_method_10_code (4 : Nat) (Option.none : Option Jvm.ClassFile.FieldType), Jvm.Cond.code ({ cls := "ReadinessPoller", name := "rawReady", desc := "(I)I" } : Jvm.MethodName) prog_1_method_4_code (4 : Nat) (Option.some Jvm.ClassFile.FieldType.int), Jvm.Cond.code ({ cls := "ReadinessPoller", name := "watched", desc := "(I)I" } : Jvm.MethodName) prog_1_method_5_code (2 : Nat) (Option.some Jvm.ClassFile.FieldType.int), Jvm.Cond.code ({ cls := "ReadinessPoller", name := "wait", desc := "(II)I" } : Jvm.MethodName) prog_1_method_22_code (9 : Nat) (Option.some Jvm.ClassFile.FieldType.int), Jvm.Cond.code ({ cls := "ReadinessPoller", name := "peek", desc := "(II)I" } : Jvm.MethodName) prog_1_method_9_code (3 : Nat) (Option.some Jvm.ClassFile.FieldType.int), Jvm.Cond.code ({ cls := "ReadinessPoller", name := "consume", desc := "(I)V" } : Jvm.MethodName) prog_1_method_23_code (2 : Nat) (Option.none : Option Jvm.ClassFile.FieldType), Jvm.Cond.code ({ cls := "ReadinessPollerL3", name := "ev", desc := "(LReadinessPoller;III)Z" } : Jvm.MethodName) method_2_code (4 : Nat) (Option.some Jvm.ClassFile.FieldType.boolean), Jvm.Cond.code ({ cls := "ReadinessPoller", name := "eventFd", desc := "(I)I" } : Jvm.MethodName) prog_1_method_24_code (2 : Nat) (Option.some Jvm.ClassFile.FieldType.int), Jvm.Cond.code ({ cls := "ReadinessPoller", name := "eventMask", desc := "(I)I" } : Jvm.MethodName) prog_1_method_25_code (2 : Nat) (Option.some Jvm.ClassFile.FieldType.int), Jvm.Cond.code ({ cls := "ReadinessPoller", name := "read", desc := "(I)I" } : Jvm.MethodName) prog_1_method_17_code (6 : Nat) (Option.some Jvm.ClassFile.FieldType.int), Jvm.Cond.code ({ cls := "ReadinessPoller", name := "write", desc := "(II)I" } : Jvm.MethodName) prog_1_method_16_code (7 : Nat) (Option.some Jvm.ClassFile.FieldType.int), Jvm.Cond.code ({ cls := "ReadinessPoller", name := "edgeUpdate", desc := "(II)V" } : Jvm.MethodName) prog_1_method_13_code (7 : Nat) (Option.none : Option Jvm.ClassFile.FieldType)]
set_option maxRecDepth 65536 in
theorem codes_eq : words1.filter isCode = codes1 := rfl
theorem w_codes : ∀ c ∈ words1.filter isCode, c.before args0 about1 = true := by
  rw [codes_eq]
  intro c hc
  simp only [codes1, List.mem_cons, List.not_mem_nil, or_false] at hc
  rcases hc with rfl | rfl | rfl | rfl | rfl | rfl | rfl | rfl | rfl | rfl | rfl | rfl | rfl | rfl | rfl | rfl | rfl | rfl | rfl | rfl | rfl | rfl
  · exact w_c0
  · exact w_c1
  · exact w_c2
  · exact w_c3
  · exact w_c4
  · exact w_c5
  · exact w_c6
  · exact w_c7
  · exact w_c8
  · exact w_c9
  · exact w_c10
  · exact w_c11
  · exact w_c12
  · exact w_c13
  · exact w_c14
  · exact w_c15
  · exact w_c16
  · exact w_c17
  · exact w_c18
  · exact w_c19
  · exact w_c20
  · exact w_c21
set_option maxRecDepth 65536 in
theorem w_t1 : (words1.take 24).all (fun c => isCode c || c.before args0 about1) = true := by decide +kernel
set_option maxRecDepth 65536 in
theorem w_t2 : ((words1.drop 24).take 24).all (fun c => isCode c || c.before args0 about1) = true := by decide +kernel
set_option maxRecDepth 65536 in
theorem w_t3 : (((words1.drop 24).drop 24).take 24).all (fun c => isCode c || c.before args0 about1) = true := by decide +kernel
set_option maxRecDepth 65536 in
theorem w_t4 : ((((words1.drop 24).drop 24).drop 24).take 24).all (fun c => isCode c || c.before args0 about1) = true := by decide +kernel
set_option maxRecDepth 65536 in
theorem w_t5 : (((((words1.drop 24).drop 24).drop 24).drop 24).take 24).all (fun c => isCode c || c.before args0 about1) = true := by decide +kernel
set_option maxRecDepth 65536 in
theorem w_t6 : (((((words1.drop 24).drop 24).drop 24).drop 24).drop 24).all (fun c => isCode c || c.before args0 about1) = true := by decide +kernel
theorem w_tables : (allAtoms (Jvm.Cond.code x code maxLocals ret :: tables_1)).before args0 about1 = true := by
  rw [allAtoms_all]
  show words1.all (fun c => c.before args0 about1) = true
  refine all_split ?_ w_codes
  rw [← List.take_append_drop 24 words1, List.all_append, w_t1, ← List.take_append_drop 24 (words1.drop 24), List.all_append, w_t2, ← List.take_append_drop 24 ((words1.drop 24).drop 24), List.all_append, w_t3, ← List.take_append_drop 24 (((words1.drop 24).drop 24).drop 24), List.all_append, w_t4, ← List.take_append_drop 24 ((((words1.drop 24).drop 24).drop 24).drop 24), List.all_append, w_t5, w_t6]
  rfl
set_option maxRecDepth 65536 in
theorem w_case : (Jvm.Cond.and given_1 narrow_1).before args0 about1 = true := by decide +kernel
theorem w_applies : (headSpec (Jvm.Cond.code x code maxLocals ret :: tables_1) room_1).applies x e0.platform about1 = true :=
  (Spec.applies_iff w_frames).mpr ⟨w_running, w_runnable, w_alone, w_named, w_hears, w_ripe, w_room, w_tables⟩
theorem atStart : AtStart classFile x code maxLocals ret World_1 tables_1 room_1 Calls_1 rest_1 Pre_1 launch0 p0 e0 about1 theMethod args0 below0 :=
  ⟨lists_1, trivial, launch0.admits_env _ _ _, launch0.least_env, fairChoices_fair.cas, fairChoices_fair.clock, w_frames, w_args, w_heap, w_applies, trivial, trivial, w_case⟩
end start1
theorem witness_1 : WitnessClaimed_1 := ⟨start1.p0, start1.e0, start1.about1, start1.theMethod, start1.args0, start1.below0, start1.atStart⟩
end Jvm.Pilot.@@N@@
