import JvmDerived
import JvmDerived.Pilot.@@N@@Statement
import JvmDerived.Pilot.@@N@@Code
set_option linter.unusedVariables false
set_option linter.unusedSimpArgs false
@@BLOCK:NumsL.lean.txt@@
namespace Jvm.LM
open Sem ClassFile Op Lib Jvm.Stand Jvm.Free Jvm.LawKit Jvm.RoadKit
/-! A small machine over plain data that mirrors the bytecode of one class and of a law over it. -/
abbrev Lv := List (Option Value)
abbrev St := (Nat → Nat → Int32) × (Nat → Nat → Int64)
abbrev Cd := List (Nat × Instr × Nat)
/-- name, descriptor, kind (0 int, 1 boolean, 2 long, 3+j the j-th array), final -/
abbrev Fe := String × String × Nat × Bool
/-- name, descriptor, number of arguments, return kind (0 none, 1 int, 2 boolean, 3 long), code, max_locals, room: frames, locals -/
abbrev Me := String × String × Nat × Nat × Cd × Nat × Nat × Nat
/-- class name, fields, arrays (kind, length), pool to field, pool to method, pool to constant, methods, pool index of Object's constructor -/
abbrev Cl := String × List (Nat × Fe) × List (Nat × Nat) × List (Nat × Nat) × List (Nat × Nat) × List (Nat × Value) × List (Nat × Me) × Nat
def Me.nm (m : Me) : String := m.1
def Me.ds (m : Me) : String := m.2.1
def Me.na (m : Me) : Nat := m.2.2.1
def Me.rt (m : Me) : Nat := m.2.2.2.1
def Me.cd (m : Me) : Cd := m.2.2.2.2.1
def Me.ml (m : Me) : Nat := m.2.2.2.2.2.1
def Me.rf (m : Me) : Nat := m.2.2.2.2.2.2.1
def Me.rl (m : Me) : Nat := m.2.2.2.2.2.2.2
def Cl.nm (P : Cl) : String := P.1
def Cl.fs (P : Cl) : List (Nat × Fe) := P.2.1
def Cl.al (P : Cl) : List (Nat × Nat) := P.2.2.1
def Cl.fx (P : Cl) : List (Nat × Nat) := P.2.2.2.1
def Cl.mx (P : Cl) : List (Nat × Nat) := P.2.2.2.2.1
def Cl.kx (P : Cl) : List (Nat × Value) := P.2.2.2.2.2.1
def Cl.ms (P : Cl) : List (Nat × Me) := P.2.2.2.2.2.2.1
def Cl.oi (P : Cl) : Nat := P.2.2.2.2.2.2.2
def gI (s : St) (c j : Nat) : Int32 := s.1 c j
def gL (s : St) (c j : Nat) : Int64 := s.2 c j
def sI (s : St) (c j : Nat) (v : Int32) : St := (fun a b => if a = c ∧ b = j then v else s.1 a b, s.2)
def sL (s : St) (c j : Nat) (v : Int64) : St := (s.1, fun a b => if a = c ∧ b = j then v else s.2 a b)
def s0 : St := (fun _ _ => 0, fun _ _ => 0)
def ix (i : Int32) : Nat := i.toNatClampNeg
abbrev inb (n : Nat) (i : Int32) : Prop := 0 ≤ i.toInt ∧ i.toInt < (n : Int)
def asc {α : Type} : List (Nat × α) → Nat → Option α
  | [], _ => none
  | (a, b) :: r, k => match Nat.beq a k with
    | true => some b
    | false => asc r k
def fetch : Cd → Nat → Option (Instr × Nat)
  | [], _ => none
  | (a, b) :: r, k => match Nat.beq a k with
    | true => some b
    | false => fetch r k
def ilen : Instr → Nat
  | .iload _ => 2 | .lload _ => 2 | .aload _ => 2 | .istore _ => 2 | .lstore _ => 2 | .astore _ => 2 | .bipush _ => 2 | .ldc _ => 2 | .newarray _ => 2
  | .sipush _ => 3 | .iinc _ _ => 3 | .goto _ => 3 | .ifCond _ _ => 3 | .if_icmp _ _ => 3 | .getfield _ => 3 | .putfield _ => 3
  | .invokevirtual _ => 3 | .invokespecial _ => 3 | .invokestatic _ => 3 | .new _ => 3 | .ldc2_w _ => 3
  | _ => 1
def isSw : Instr → Bool
  | .tableswitch _ _ _ _ => true
  | _ => false
def clr (ls : Lv) : Nat → Lv
  | 0 => ls
  | j + 1 => match ls[j]? with
    | some (some (.long _)) => ls.set j none
    | some (some (.double _)) => ls.set j none
    | _ => ls
/-- a store into the local variables: a long takes two -/
def stl (ls : Lv) (i : Nat) (v : Value) : Option Lv :=
  match v with
  | .long x => if i + 1 < ls.length then some (((clr ls i).set i (some (.long x))).set (i + 1) none) else none
  | w => if i < ls.length then some ((clr ls i).set i (some w)) else none
def br (cd : ClassFile.Cond) (x y : Int32) (a b : Nat) : Nat :=
  match cd with
  | .eq => if x = y then a else b
  | .ne => if x = y then b else a
  | .lt => if x < y then a else b
  | .ge => if x < y then b else a
  | .gt => if y < x then a else b
  | .le => if y < x then b else a
def jmp (pc : Nat) (o : Int) : Nat := ((pc : Int) + o).toNat
def qstep (i : Instr) (pc : Nat) (st : List Value) : Option (Nat × List Value) :=
  match i with
  | .iconst v => some (pc + 1, .int (Int32.ofInt v) :: st)
  | .bipush v => some (pc + 2, .int (Int8.ofInt v).toInt32 :: st)
  | .sipush v => some (pc + 3, .int (Int16.ofInt v).toInt32 :: st)
  | .lconst k => some (pc + 1, .long (Int64.ofNat k) :: st)
  | .iadd => match st with | .int y :: .int x :: r => some (pc + 1, .int (x + y) :: r) | _ => none
  | .isub => match st with | .int y :: .int x :: r => some (pc + 1, .int (x - y) :: r) | _ => none
  | .imul => match st with | .int y :: .int x :: r => some (pc + 1, .int (x * y) :: r) | _ => none
  | .iand => match st with | .int y :: .int x :: r => some (pc + 1, .int (x &&& y) :: r) | _ => none
  | .ior => match st with | .int y :: .int x :: r => some (pc + 1, .int (x ||| y) :: r) | _ => none
  | .ixor => match st with | .int y :: .int x :: r => some (pc + 1, .int (x ^^^ y) :: r) | _ => none
  | .ishl => match st with | .int y :: .int x :: r => some (pc + 1, .int (x <<< (y &&& 31)) :: r) | _ => none
  | .ishr => match st with | .int y :: .int x :: r => some (pc + 1, .int (x >>> (y &&& 31)) :: r) | _ => none
  | .iushr => match st with | .int y :: .int x :: r => some (pc + 1, .int (XT.ushr x y) :: r) | _ => none
  | .idiv => match st with | .int y :: .int x :: r => if y = 0 then none else some (pc + 1, .int (x / y) :: r) | _ => none
  | .irem => match st with | .int y :: .int x :: r => if y = 0 then none else some (pc + 1, .int (x % y) :: r) | _ => none
  | .ineg => match st with | .int x :: r => some (pc + 1, .int (-x) :: r) | _ => none
  | .ladd => match st with | .long y :: .long x :: r => some (pc + 1, .long (x + y) :: r) | _ => none
  | .lsub => match st with | .long y :: .long x :: r => some (pc + 1, .long (x - y) :: r) | _ => none
  | .lmul => match st with | .long y :: .long x :: r => some (pc + 1, .long (x * y) :: r) | _ => none
  | .land => match st with | .long y :: .long x :: r => some (pc + 1, .long (x &&& y) :: r) | _ => none
  | .lor => match st with | .long y :: .long x :: r => some (pc + 1, .long (x ||| y) :: r) | _ => none
  | .lxor => match st with | .long y :: .long x :: r => some (pc + 1, .long (x ^^^ y) :: r) | _ => none
  | .lshl => match st with | .int y :: .long x :: r => some (pc + 1, .long (x <<< (y.toInt64 &&& 63)) :: r) | _ => none
  | .lshr => match st with | .int y :: .long x :: r => some (pc + 1, .long (x >>> (y.toInt64 &&& 63)) :: r) | _ => none
  | .lushr => match st with | .int y :: .long x :: r => some (pc + 1, .long (XT.ushrL x y) :: r) | _ => none
  | .ldiv => match st with | .long y :: .long x :: r => if y = 0 then none else some (pc + 1, .long (x / y) :: r) | _ => none
  | .lneg => match st with | .long x :: r => some (pc + 1, .long (-x) :: r) | _ => none
  | .lcmp => match st with | .long y :: .long x :: r => some (pc + 1, .int (XT.cmpL x y) :: r) | _ => none
  | .i2l => match st with | .int x :: r => some (pc + 1, .long x.toInt64 :: r) | _ => none
  | .l2i => match st with | .long x :: r => some (pc + 1, .int x.toInt32 :: r) | _ => none
  | .dup => match st with | .int x :: r => some (pc + 1, .int x :: .int x :: r) | .ref x :: r => some (pc + 1, .ref x :: .ref x :: r) | _ => none
  | .pop => match st with | .int _ :: r => some (pc + 1, r) | .ref _ :: r => some (pc + 1, r) | _ => none
  | .goto o => if 0 ≤ (pc : Int) + o then some (jmp pc o, st) else none
  | .ifCond cd o => match st with | .int x :: r => if 0 ≤ (pc : Int) + o then some (br cd x 0 (jmp pc o) (pc + 3), r) else none | _ => none
  | .if_icmp cd o => match st with | .int y :: .int x :: r => if 0 ≤ (pc : Int) + o then some (br cd x y (jmp pc o) (pc + 3), r) else none | _ => none
  | .tableswitch d lo hi offs => match st with
    | .int x :: r => if x.toInt < lo ∨ x.toInt > hi then (if 0 ≤ (pc : Int) + d then some (jmp pc d, r) else none)
      else (match offs[(x.toInt - lo).toNat]? with | some o => if 0 ≤ (pc : Int) + o then some (jmp pc o, r) else none | none => none)
    | _ => none
  | _ => none
def pstep (i : Instr) (pc : Nat) (ls : Lv) (st : List Value) : Option (Nat × Lv × List Value) :=
  match i with
  | .iload_n k => match ls[k.val]? with | some (some (.int v)) => some (pc + 1, ls, .int v :: st) | _ => none
  | .iload k => match ls[k]? with | some (some (.int v)) => some (pc + 2, ls, .int v :: st) | _ => none
  | .lload_n k => match ls[k.val]? with | some (some (.long v)) => some (pc + 1, ls, .long v :: st) | _ => none
  | .lload k => match ls[k]? with | some (some (.long v)) => some (pc + 2, ls, .long v :: st) | _ => none
  | .aload_n k => match ls[k.val]? with | some (some (.ref v)) => some (pc + 1, ls, .ref v :: st) | _ => none
  | .aload k => match ls[k]? with | some (some (.ref v)) => some (pc + 2, ls, .ref v :: st) | _ => none
  | .istore_n k => match st with | .int v :: r => (match stl ls k.val (.int v) with | some l => some (pc + 1, l, r) | none => none) | _ => none
  | .istore k => match st with | .int v :: r => (match stl ls k (.int v) with | some l => some (pc + 2, l, r) | none => none) | _ => none
  | .lstore_n k => match st with | .long v :: r => (match stl ls k.val (.long v) with | some l => some (pc + 1, l, r) | none => none) | _ => none
  | .lstore k => match st with | .long v :: r => (match stl ls k (.long v) with | some l => some (pc + 2, l, r) | none => none) | _ => none
  | .astore_n k => match st with | .ref v :: r => (match stl ls k.val (.ref v) with | some l => some (pc + 1, l, r) | none => none) | _ => none
  | .astore k => match st with | .ref v :: r => (match stl ls k (.ref v) with | some l => some (pc + 2, l, r) | none => none) | _ => none
  | .iinc k d => match ls[k]? with | some (some (.int v)) => (match stl ls k (.int (v + Int32.ofInt d)) with | some l => some (pc + 3, l, st) | none => none) | _ => none
  | i => match qstep i pc st with | some (pc', st') => some (pc', ls, st') | none => none
/-- how the machine's references stand in the heap -/
def va (ρ : Nat → Nat) : Value → Value
  | .ref c => .ref (ρ c)
  | v => v
def WF (L : Array Slot) : Prop :=
  (∀ (k : Nat) (v : Value), L[k]? = some (Slot.val v) → v.category = 2 → L[k + 1]? = some .second) ∧
  (∀ k : Nat, L[k + 1]? = some Slot.second → ∃ v : Value, L[k]? = some (Slot.val v) ∧ v.category = 2) ∧ L[0]? ≠ some Slot.second
def LR (ρ : Nat → Nat) (ls : Lv) (L : Array Slot) : Prop :=
  L.size = ls.length ∧ (∀ (k : Nat) (v : Value), ls[k]? = some (some v) → L[k]? = some (Slot.val (va ρ v))) ∧ WF L
end Jvm.LM

namespace Jvm.LM
open Sem ClassFile Op Lib Jvm.Stand Jvm.Free Jvm.LawKit Jvm.RoadKit
/-! the local variables -/
def upd (f : Nat → Option Slot) (i : Nat) (x : Slot) : Nat → Option Slot := fun k => if k = i then some x else f k
def WFf (f : Nat → Option Slot) : Prop :=
  (∀ k v, f k = some (.val v) → v.category = 2 → f (k + 1) = some .second) ∧
  (∀ k, f (k + 1) = some .second → ∃ v, f k = some (.val v) ∧ v.category = 2) ∧ f 0 ≠ some .second
def clearF (f : Nat → Option Slot) (i : Nat) : Nat → Option Slot :=
  match f i with
  | some .second => upd (upd f (i - 1) .unset) i .unset
  | some (.val old) => if old.category = 2 then upd (upd f (i + 1) .unset) i .unset else upd f i .unset
  | _ => f
theorem clearF_cases (f : Nat → Option Slot) (i : Nat) : (f i = some .second ∧ clearF f i = upd (upd f (i - 1) .unset) i .unset) ∨ (∃ old, f i = some (.val old) ∧ old.category = 2 ∧ clearF f i = upd (upd f (i + 1) .unset) i .unset) ∨
    (∃ old, f i = some (.val old) ∧ old.category ≠ 2 ∧ clearF f i = upd f i .unset) ∨ ((f i = some .unset ∨ f i = none) ∧ clearF f i = f) := by
  cases h : f i with
  | none => exact Or.inr (Or.inr (Or.inr ⟨Or.inr rfl, by simp only [clearF, h]⟩))
  | some x =>
    cases x with
    | unset => exact Or.inr (Or.inr (Or.inr ⟨Or.inl rfl, by simp only [clearF, h]⟩))
    | second => exact Or.inl ⟨rfl, by simp only [clearF, h]⟩
    | val old =>
      by_cases hc : old.category = 2
      · exact Or.inr (Or.inl ⟨old, rfl, hc, by simp only [clearF, h]; rw [if_pos hc]⟩)
      · exact Or.inr (Or.inr (Or.inl ⟨old, rfl, hc, by simp only [clearF, h]; rw [if_neg hc]⟩))
theorem wff_clear {f : Nat → Option Slot} (h : WFf f) (i : Nat) : WFf (clearF f i) := by
  obtain ⟨h1, h2, h3⟩ := h
  unfold clearF
  split
  · rename_i e
    cases i with
    | zero => exact absurd e h3
    | succ j =>
      refine ⟨fun k v hk hc => ?_, fun k hk => ?_, ?_⟩
      · simp only [upd, Nat.add_sub_cancel] at hk ⊢
        have := h1 k v
        by_cases a : k = j + 1
        · simp [a] at hk
        · by_cases b : k = j
          · simp [b] at hk
          · have c : k + 1 ≠ j + 1 := by omega
            simp only [a, b, if_false] at hk
            by_cases d : k + 1 = j
            · have := h1 k v hk hc
              obtain ⟨w, hw, hw2⟩ := h2 j e
              rw [d, hw] at this; cases this
            · simp [c, d, b, h1 k v hk hc]
      · simp only [upd, Nat.add_sub_cancel] at hk ⊢
        by_cases a : k = j
        · simp [a] at hk
        · by_cases b : k + 1 = j
          · simp [b] at hk
          · simp only [show ¬ (k + 1 = j + 1) by omega, b, if_false] at hk
            obtain ⟨w, hw, hw2⟩ := h2 k hk
            by_cases d : k = j + 1
            · rw [d, e] at hw; cases hw
            · exact ⟨w, by simp [d, a, hw], hw2⟩
      · simp only [upd, Nat.add_sub_cancel]
        by_cases b : 0 = j
        · simp [← b]
        · simp [b, h3]
  · rename_i old e
    split
    · rename_i hc2
      have e2 := h1 i old e hc2
      refine ⟨fun k v hk hc => ?_, fun k hk => ?_, ?_⟩
      · simp only [upd] at hk ⊢
        by_cases a : k = i
        · simp [a] at hk
        · by_cases b : k = i + 1
          · simp [b] at hk
          · simp only [a, b, if_false] at hk
            have q := h1 k v hk hc
            by_cases d : k + 1 = i
            · rw [d, e] at q; cases q
            · simp [d, a, show ¬ (k + 1 = i + 1) by omega, q]
      · simp only [upd] at hk ⊢
        by_cases a : k + 1 = i
        · simp [a] at hk
        · by_cases b : k = i
          · simp [b] at hk
          · simp only [a, show ¬ (k + 1 = i + 1) by omega, if_false] at hk
            obtain ⟨w, hw, hw2⟩ := h2 k hk
            by_cases d : k = i + 1
            · rw [d, e2] at hw; cases hw
            · exact ⟨w, by simp [d, b, hw], hw2⟩
      · simp only [upd]
        by_cases b : 0 = i
        · simp [← b]
        · simp [b, h3]
    · rename_i hc2
      refine ⟨fun k v hk hc => ?_, fun k hk => ?_, ?_⟩
      · simp only [upd] at hk ⊢
        by_cases a : k = i
        · simp [a] at hk
        · simp only [a, if_false] at hk
          have q := h1 k v hk hc
          by_cases d : k + 1 = i
          · rw [d, e] at q; cases q
          · simp [d, q]
      · simp only [upd] at hk ⊢
        by_cases a : k + 1 = i
        · simp [a] at hk
        · simp only [a, if_false] at hk
          obtain ⟨w, hw, hw2⟩ := h2 k hk
          by_cases d : k = i
          · rw [d, e] at hw; cases hw; exact absurd hw2 hc2
          · exact ⟨w, by simp [d, hw], hw2⟩
      · simp only [upd]
        by_cases b : 0 = i
        · simp [← b]
        · simp [b, h3]
  · exact ⟨h1, h2, h3⟩
theorem wff_one {f : Nat → Option Slot} (h : WFf f) {i : Nat} (e : f i = some .unset) {v : Value} (hv : v.category ≠ 2) : WFf (upd f i (.val v)) := by
  obtain ⟨h1, h2, h3⟩ := h
  refine ⟨fun k w hk hc => ?_, fun k hk => ?_, ?_⟩
  · simp only [upd] at hk ⊢
    by_cases a : k = i
    · simp only [a, if_true, Option.some.injEq, Slot.val.injEq] at hk; subst hk; exact absurd hc hv
    · simp only [a, if_false] at hk
      have q := h1 k w hk hc
      by_cases d : k + 1 = i
      · rw [d, e] at q; cases q
      · simp [d, q]
  · simp only [upd] at hk ⊢
    by_cases a : k + 1 = i
    · simp [a] at hk
    · simp only [a, if_false] at hk
      obtain ⟨w, hw, hw2⟩ := h2 k hk
      by_cases d : k = i
      · rw [d, e] at hw; cases hw
      · exact ⟨w, by simp [d, hw], hw2⟩
  · simp only [upd]
    by_cases b : 0 = i
    · simp [← b]
    · simp [b, h3]
theorem wff_two {f : Nat → Option Slot} (h : WFf f) {i : Nat} (e : f i = some .unset) (e' : f (i + 1) = some .unset) {v : Value} (hv : v.category = 2) : WFf (upd (upd f i (.val v)) (i + 1) .second) := by
  obtain ⟨h1, h2, h3⟩ := h
  refine ⟨fun k w hk hc => ?_, fun k hk => ?_, ?_⟩
  · simp only [upd] at hk ⊢
    by_cases a : k = i + 1
    · simp [a] at hk
    · by_cases b : k = i
      · simp [b]
      · simp only [a, b, if_false] at hk
        have q := h1 k w hk hc
        by_cases d : k + 1 = i
        · rw [d, e] at q; cases q
        · simp [d, show ¬ (k + 1 = i + 1) by omega, q]
  · simp only [upd] at hk ⊢
    by_cases a : k = i
    · exact ⟨v, by simp [a], hv⟩
    · by_cases b : k + 1 = i
      · simp [b] at hk
      · simp only [show ¬ (k + 1 = i + 1) by omega, b, if_false] at hk
        obtain ⟨w, hw, hw2⟩ := h2 k hk
        by_cases d : k = i + 1
        · rw [d, e'] at hw; cases hw
        · exact ⟨w, by simp [d, a, hw], hw2⟩
  · simp only [upd]
    by_cases b : 0 = i
    · simp [← b]
    · simp [b, h3]
theorem gset (L : Array Slot) {i : Nat} (hi : i < L.size) (x : Slot) : (fun k => (L.setIfInBounds i x)[k]?) = upd (fun k => L[k]?) i x := by
  funext k
  simp only [upd, Array.getElem?_setIfInBounds]
  by_cases a : i = k
  · subst a; simp [hi]
  · simp [a, show ¬ k = i from fun h => a h.symm]
theorem sl_eq (L : Array Slot) (i : Nat) (v : Value) : storeLocals L i v = (L[i]?).bind (fun x => match x with
    | .second => (setAt L (i - 1) .unset).bind (fun l => storeSelf l i v)
    | .val old => if old.category = 2 then (setAt L (i + 1) .unset).bind (fun l => storeSelf l i v) else storeSelf L i v
    | .unset => storeSelf L i v) := rfl
theorem ss_eq (L : Array Slot) (i : Nat) (v : Value) : storeSelf L i v = (setAt L i (.val v)).bind (fun l => if v.category = 2 then (l[i + 1]?).bind (fun x => match x with
    | .val old => if old.category = 2 then (setAt l (i + 2) .unset).bind (fun l' => setAt l' (i + 1) .second) else setAt l (i + 1) .second
    | _ => setAt l (i + 1) .second) else some l) := rfl
theorem sa_eq {L : Array Slot} {i : Nat} (hi : i < L.size) (x : Slot) : setAt L i x = some (L.setIfInBounds i x) := if_pos hi
theorem upd_upd (f : Nat → Option Slot) (i : Nat) (x y : Slot) : upd (upd f i x) i y = upd f i y := by
  funext k; simp only [upd]; split <;> rfl
/-- what a store clears first -/
theorem clear_ok {L : Array Slot} (hW : WF L) {i : Nat} (hi : i < L.size) (v : Value) : ∃ L1, storeLocals L i v = storeSelf L1 i v ∧ L1.size = L.size ∧ upd (fun k => L1[k]?) i .unset = upd (clearF (fun k => L[k]?) i) i .unset := by
  have hh : WFf (fun k => L[k]?) := hW
  obtain ⟨sl, hsl⟩ : ∃ sl, L[i]? = some sl := ⟨L[i], Array.getElem?_eq_getElem hi⟩
  rw [sl_eq, hsl, Option.bind_some]
  cases sl with
  | unset => exact ⟨L, rfl, rfl, by simp only [clearF, hsl]⟩
  | second =>
    refine ⟨L.setIfInBounds (i - 1) .unset, ?_, by simp, ?_⟩
    · show (setAt L (i - 1) .unset).bind _ = _
      rw [sa_eq (by omega)]; rfl
    · rw [gset _ (by omega)]; simp only [clearF, hsl, upd_upd]
  | val old =>
    by_cases hc : old.category = 2
    · have h2 := hh.1 i old hsl hc
      have hlt : i + 1 < L.size := (Array.getElem?_eq_some_iff.mp h2).1
      refine ⟨L.setIfInBounds (i + 1) .unset, ?_, by simp, ?_⟩
      · show (if old.category = 2 then _ else _) = _
        rw [if_pos hc, sa_eq hlt]; rfl
      · rw [gset _ hlt]; simp only [clearF, hsl, hc, if_true, upd_upd]
    · refine ⟨L, ?_, rfl, ?_⟩
      · show (if old.category = 2 then _ else _) = _
        rw [if_neg hc]
      · simp only [clearF, hsl, hc, if_false, upd_upd]
theorem clearF_at {f : Nat → Option Slot} {i : Nat} (hi : f i ≠ none) : clearF f i i = some .unset := by
  rcases clearF_cases f i with ⟨h1, h2⟩ | ⟨old, h1, h3, h2⟩ | ⟨old, h1, h3, h2⟩ | ⟨h1 | h1, h2⟩
  · rw [h2]; simp [upd]
  · rw [h2]; simp [upd]
  · rw [h2]; simp [upd]
  · rw [h2]; exact h1
  · exact absurd h1 hi
theorem clearF_self {f : Nat → Option Slot} {i : Nat} (hi : f i ≠ none) : upd (clearF f i) i .unset = clearF f i := by
  funext k; simp only [upd]; split
  · rename_i e; rw [e]; exact (clearF_at hi).symm
  · rfl
/-- the other variables: kept, or they held (a part of) a long -/
theorem clearF_keep {f : Nat → Option Slot} (h : WFf f) {i k : Nat} {w : Value} (hk : k ≠ i) (e : f k = some (.val w)) (hw : k + 1 = i → w.category ≠ 2) : clearF f i k = some (.val w) := by
  rcases clearF_cases f i with ⟨e2, h2⟩ | ⟨old, e2, hc, h2⟩ | ⟨old, e2, hc, h2⟩ | ⟨-, h2⟩
  · rw [h2]
    cases i with
    | zero => exact absurd e2 h.2.2
    | succ j =>
      simp only [upd, Nat.add_sub_cancel, hk, if_false]
      split
      · rename_i hj; subst hj
        obtain ⟨v, hv, hv2⟩ := h.2.1 k e2
        rw [e] at hv; cases hv; exact absurd hv2 (hw rfl)
      · exact e
  · rw [h2]
    have q := h.1 i old e2 hc
    simp only [upd, hk, if_false]
    split
    · rename_i hj; rw [hj, q] at e; cases e
    · exact e
  · rw [h2]; simp [upd, hk, e]
  · rw [h2]; exact e
theorem store_one {L : Array Slot} (hW : WF L) {i : Nat} (hi : i < L.size) {v : Value} (hv : v.category ≠ 2) :
    ∃ L', storeLocals L i v = some L' ∧ L'.size = L.size ∧ WF L' ∧ (fun k => L'[k]?) = upd (clearF (fun k => L[k]?) i) i (.val v) := by
  obtain ⟨L1, h1, h2, h3⟩ := clear_ok hW hi v
  have hne : (fun k => L[k]?) i ≠ none := by simp; omega
  have hi1 : i < L1.size := by omega
  refine ⟨L1.setIfInBounds i (.val v), ?_, by simp [h2], ?_, ?_⟩
  · rw [h1, ss_eq, sa_eq hi1, Option.bind_some, if_neg hv]
  · have q : (fun k => (L1.setIfInBounds i (.val v))[k]?) = upd (clearF (fun k => L[k]?) i) i (.val v) := by
      rw [gset _ hi1, ← upd_upd _ i .unset, h3, upd_upd]
    have w : WFf (fun k => (L1.setIfInBounds i (.val v))[k]?) := by
      rw [q]; exact wff_one (wff_clear hW i) (clearF_at hne) hv
    exact w
  · rw [gset _ hi1, ← upd_upd _ i .unset, h3, upd_upd]
theorem store_two {L : Array Slot} (hW : WF L) {i : Nat} (hi : i + 1 < L.size) {v : Value} (hv : v.category = 2) :
    ∃ L', storeLocals L i v = some L' ∧ L'.size = L.size ∧ WF L' ∧ (fun k => L'[k]?) = upd (upd (clearF (clearF (fun k => L[k]?) i) (i + 1)) i (.val v)) (i + 1) .second := by
  obtain ⟨L1, h1, h2, h3⟩ := clear_ok hW (show i < L.size by omega) v
  have hne : (fun k => L[k]?) i ≠ none := by simp; omega
  have hi1 : i < L1.size := by omega
  have hi2 : i + 1 < L1.size := by omega
  rw [clearF_self hne] at h3
  have hWc := wff_clear (f := fun k => L[k]?) hW i
  generalize hF : clearF (fun k => L[k]?) i = F at *
  have hFi : F i = some .unset := by rw [← hF]; exact clearF_at hne
  have g1 : (fun k => (L1.setIfInBounds i (.val v))[k]?) = upd F i (.val v) := by rw [gset _ hi1, ← upd_upd _ i .unset, h3]
  have g2 : (L1.setIfInBounds i (.val v))[i + 1]? = F (i + 1) := by
    have := congrFun g1 (i + 1); simpa [upd] using this
  have hFi1 : F (i + 1) ≠ none := by
    have : (L1.setIfInBounds i (.val v))[i + 1]? ≠ none := by simp; omega
    rw [g2] at this; exact this
  have hns : F (i + 1) ≠ some .second := fun q => by
    obtain ⟨w, hw, -⟩ := hWc.2.1 i q
    rw [hFi] at hw; cases hw
  have key : ∀ G : Nat → Option Slot, WFf G → G i = some .unset → G (i + 1) = some .unset → G = clearF F (i + 1) → WFf (upd (upd (clearF F (i + 1)) i (.val v)) (i + 1) .second) := fun G hG a b e => by rw [← e]; exact wff_two hG a b hv
  have hcl := wff_clear hWc (i + 1)
  have hcli : clearF F (i + 1) i = some .unset := by
    rcases clearF_cases F (i + 1) with ⟨q, h2⟩ | ⟨old, q, hc, h2⟩ | ⟨old, q, hc, h2⟩ | ⟨-, h2⟩
    · exact absurd q hns
    · rw [h2]; simp [upd, hFi]
    · rw [h2]; simp [upd, hFi]
    · rw [h2]; exact hFi
  have hWF := wff_two hcl hcli (clearF_at hFi1) hv
  rw [h1, ss_eq, sa_eq hi1, Option.bind_some, if_pos hv, g2]
  cases hx : F (i + 1) with
  | none => exact absurd hx hFi1
  | some sl =>
    cases sl with
    | second => exact absurd hx hns
    | unset =>
      have e1 : clearF F (i + 1) = F := by simp only [clearF, hx]
      have e3 : (fun k => ((L1.setIfInBounds i (.val v)).setIfInBounds (i + 1) .second)[k]?) = upd (upd (clearF F (i + 1)) i (.val v)) (i + 1) .second := by
        rw [gset _ (by simpa using hi2), g1, e1]
      refine ⟨(L1.setIfInBounds i (.val v)).setIfInBounds (i + 1) .second, ?_, by simp [h2], ?_, e3⟩
      · show setAt _ (i + 1) .second = _
        rw [sa_eq (by simpa using hi2)]
      · have w : WFf (fun k => ((L1.setIfInBounds i (.val v)).setIfInBounds (i + 1) .second)[k]?) := by rw [e3]; exact hWF
        exact w
    | val old =>
      by_cases hc : old.category = 2
      · have q := hWc.1 _ _ hx hc
        have hi3 : i + 2 < L1.size := by
          have q2 : (L1.setIfInBounds i (.val v))[i + 2]? = some .second := by
            have := congrFun g1 (i + 2); simpa [upd, q] using this
          have := (Array.getElem?_eq_some_iff.mp q2).1
          simpa using this
        have e1 : clearF F (i + 1) = upd (upd F (i + 2) .unset) (i + 1) .unset := by simp only [clearF, hx, hc, if_true]
        have e3 : (fun k => (((L1.setIfInBounds i (.val v)).setIfInBounds (i + 2) .unset).setIfInBounds (i + 1) .second)[k]?) = upd (upd (clearF F (i + 1)) i (.val v)) (i + 1) .second := by
          rw [gset _ (by simpa using hi2), gset _ (by simpa using hi3), g1, e1]
          funext k; simp only [upd]
          by_cases a : k = i + 1
          · simp [a]
          · by_cases b : k = i
            · simp [b]
            · simp [a, b]
        refine ⟨((L1.setIfInBounds i (.val v)).setIfInBounds (i + 2) .unset).setIfInBounds (i + 1) .second, ?_, by simp [h2], ?_, e3⟩
        · show (if old.category = 2 then _ else _) = _
          rw [if_pos hc, sa_eq (by simpa using hi3), Option.bind_some, sa_eq (by simpa using hi2)]
        · have w : WFf (fun k => (((L1.setIfInBounds i (.val v)).setIfInBounds (i + 2) .unset).setIfInBounds (i + 1) .second)[k]?) := by rw [e3]; exact hWF
          exact w
      · have e1 : clearF F (i + 1) = upd F (i + 1) .unset := by simp only [clearF, hx, hc, if_false]
        have e3 : (fun k => ((L1.setIfInBounds i (.val v)).setIfInBounds (i + 1) .second)[k]?) = upd (upd (clearF F (i + 1)) i (.val v)) (i + 1) .second := by
          rw [gset _ (by simpa using hi2), g1, e1]
          funext k; simp only [upd]
          by_cases a : k = i + 1
          · simp [a]
          · by_cases b : k = i
            · simp [b]
            · simp [a, b]
        refine ⟨(L1.setIfInBounds i (.val v)).setIfInBounds (i + 1) .second, ?_, by simp [h2], ?_, e3⟩
        · show (if old.category = 2 then _ else _) = _
          rw [if_neg hc, sa_eq (by simpa using hi2)]
        · have w : WFf (fun k => ((L1.setIfInBounds i (.val v)).setIfInBounds (i + 1) .second)[k]?) := by rw [e3]; exact hWF
          exact w
theorem cat_va (ρ : Nat → Nat) (v : Value) : (va ρ v).category = v.category := by cases v <;> rfl
theorem clr_len (ls : Lv) (i : Nat) : (clr ls i).length = ls.length := by
  cases i with
  | zero => rfl
  | succ j => simp only [clr]; split <;> simp
theorem clr_get {ls : Lv} {i k : Nat} {v : Value} (h : (clr ls i)[k]? = some (some v)) : ls[k]? = some (some v) ∧ (k + 1 = i → v.category ≠ 2) := by
  cases i with
  | zero => exact ⟨h, fun q => by omega⟩
  | succ j =>
    simp only [clr] at h
    split at h
    · rename_i x e
      rw [List.getElem?_set] at h
      split at h
      · rename_i hj; subst hj; split at h <;> simp at h
      · rename_i hj; exact ⟨h, fun q => by omega⟩
    · rename_i x e
      rw [List.getElem?_set] at h
      split at h
      · rename_i hj; subst hj; split at h <;> simp at h
      · rename_i hj; exact ⟨h, fun q => by omega⟩
    · rename_i e1 e2
      refine ⟨h, fun q hc => ?_⟩
      have hk : k = j := by omega
      subst hk
      cases v <;> first | exact e1 _ h | exact e2 _ h | (exact Nat.noConfusion (Nat.succ.inj hc))
theorem store_ok {ρ : Nat → Nat} {ls ls' : Lv} {L : Array Slot} {i : Nat} {v : Value} (hL : LR ρ ls L) (hd : ∀ x, v ≠ .double x) (h : stl ls i v = some ls') : ∃ L', storeLocals L i (va ρ v) = some L' ∧ LR ρ ls' L' ∧ L'.size = L.size := by
  obtain ⟨hz, hr, hW⟩ := hL
  have hWf : WFf (fun k => L[k]?) := hW
  by_cases hc : v.category = 2
  · obtain ⟨x, rfl⟩ : ∃ x, v = .long x := by cases v <;> simp [Value.category] at hc <;> first | exact ⟨_, rfl⟩ | exact absurd rfl (hd _)
    simp only [stl] at h
    split at h
    · rename_i hi
      cases h
      obtain ⟨L', a1, a2, a3, a4⟩ := store_two hW (show i + 1 < L.size by omega) (v := va ρ (.long x)) rfl
      refine ⟨L', a1, ⟨by simp [a2, hz, clr_len], fun k w hk => ?_, a3⟩, a2⟩
      have q : L'[k]? = _ := congrFun a4 k
      rw [q]
      rw [List.getElem?_set] at hk
      split at hk
      · simp at hk
      · rename_i hk1
        rw [List.getElem?_set] at hk
        split at hk
        · rename_i hk2; subst hk2
          simp only [clr_len] at hk
          split at hk
          · cases hk; simp [upd]
          · simp at hk
        · rename_i hk2
          obtain ⟨b1, b2⟩ := clr_get hk
          have b3 := hr _ _ b1
          have b4 : clearF (fun k => L[k]?) i k = some (.val (va ρ w)) := clearF_keep hWf (fun q => hk2 q.symm) b3 (fun q => by rw [cat_va]; exact b2 q)
          have b5 := clearF_keep (wff_clear hWf i) (i := i + 1) (fun q => hk1 q.symm) b4 (fun q => absurd (Nat.succ.inj q) fun z => hk2 z.symm)
          simp only [upd, show ¬ k = i + 1 from fun q => hk1 q.symm, show ¬ k = i from fun q => hk2 q.symm, if_false]
          exact b5
    · cases h
  · have hs : stl ls i v = if i < ls.length then some ((clr ls i).set i (some v)) else none := by cases v <;> first | rfl | exact absurd rfl hc
    rw [hs] at h
    split at h
    · rename_i hi
      cases h
      obtain ⟨L', a1, a2, a3, a4⟩ := store_one hW (show i < L.size by omega) (v := va ρ v) (by rw [cat_va]; exact hc)
      refine ⟨L', a1, ⟨by simp [a2, hz, clr_len], fun k w hk => ?_, a3⟩, a2⟩
      have q : L'[k]? = _ := congrFun a4 k
      rw [q]
      rw [List.getElem?_set] at hk
      split at hk
      · rename_i hk2; subst hk2
        simp only [clr_len] at hk
        split at hk
        · cases hk; simp [upd]
        · omega
      · rename_i hk2
        obtain ⟨b1, b2⟩ := clr_get hk
        have b3 := hr _ _ b1
        have b4 : clearF (fun k => L[k]?) i k = some (.val (va ρ w)) := clearF_keep hWf (fun q => hk2 q.symm) b3 (fun q => by rw [cat_va]; exact b2 q)
        simp only [upd, show ¬ k = i from fun q => hk2 q.symm, if_false]
        exact b4
    · cases h
end Jvm.LM

namespace Jvm.LM
open Sem ClassFile Op Lib Jvm.Stand Jvm.Free Jvm.LawKit Jvm.RoadKit
section Pure
variable {p : Program} {l : Launch} {e : Env} {R : Room} {s : State} {m : MethodId} {args : Array Value} {below : List Frame} {meth : Method} {c : Code} {T : State} {locs : List Loc} {cells slots : Nat}
theorem br_eq (cd : ClassFile.Cond) (x y : Int32) (a b : Nat) : br cd x y a b = if if_icmp.holds cd x y = true then a else b := by
  cases cd <;> simp only [br]
  · by_cases h : x = y <;> simp [h, XT.ii_eq_t, XT.ii_eq_f]
  · by_cases h : x = y
    · rw [if_pos h, XT.ii_ne_f h]; rfl
    · rw [if_neg h, XT.ii_ne_t h]; rfl
  · by_cases h : x < y
    · rw [if_pos h, XT.ii_lt_t h]; rfl
    · rw [if_neg h, XT.ii_lt_f h]; rfl
  · by_cases h : x < y
    · rw [if_pos h, XT.ii_ge_f h]; rfl
    · rw [if_neg h, XT.ii_ge_t h]; rfl
  · by_cases h : y < x
    · rw [if_pos h, XT.ii_gt_t h]; rfl
    · rw [if_neg h, XT.ii_gt_f h]; rfl
  · by_cases h : y < x
    · rw [if_pos h, XT.ii_le_f h]; rfl
    · rw [if_neg h, XT.ii_le_t h]; rfl
theorem qstep_sound (X : Stand p l e R s m args below meth c T locs cells slots) (hx : p.tables.exec = Jvm.exec) {ρ : Nat → Nat} {i : Instr} {n pc pc' : Nat} {st st' : List Value}
    (h : qstep i pc st = some (pc', st')) (hd : decode c.code pc = .ok (i, n)) (hn : isSw i = true ∨ n = ilen i) {L : Array Slot} :
    ∀ target, Steps p.tables e below (T.setTop (mkF m pc' L (st'.map (va ρ)))) target → Steps p.tables e below (T.setTop (mkF m pc L (st.map (va ρ)))) target := by
  by_cases hsw : isSw i = true
  · cases i <;> first | exact absurd hsw Bool.false_ne_true | skip
    rename_i d lo hi offs
    simp only [qstep] at h
    split at h
    · rename_i x r
      split at h
      · rename_i e1
        split at h
        · rename_i e2; cases h; exact fun t q => X.tableswitchOut hx (g := mkF m pc L (.int x :: List.map (va ρ) _)) rfl rfl hd e1 e2 t q
        · cases h
      · rename_i e1
        split at h
        · rename_i o e2
          split at h
          · rename_i e3; cases h; exact fun t q => X.tableswitchIn hx (g := mkF m pc L (.int x :: List.map (va ρ) _)) rfl rfl hd e1 e2 e3 t q
          · cases h
        · cases h
    · cases h
  obtain rfl := hn.resolve_left hsw
  unfold qstep at h
  split at h
  -- constants
  · cases h; exact fun t q => XS.iconst X.here hx rfl hd q
  · cases h; exact fun t q => XS.bipush X.here hx rfl hd q
  · cases h; exact fun t q => XS.sipush X.here hx rfl hd q
  · cases h; exact fun t q => XT.lconst X.here hx rfl hd q
  -- ints
  · split at h
    · cases h; exact fun t q => XS.iadd X.here hx rfl hd rfl q
    · cases h
  · split at h
    · cases h; exact fun t q => XS.isub X.here hx rfl hd rfl q
    · cases h
  · split at h
    · cases h; exact fun t q => XS.imul X.here hx rfl hd rfl q
    · cases h
  · split at h
    · cases h; exact fun t q => XS.iand X.here hx rfl hd rfl q
    · cases h
  · split at h
    · cases h; exact fun t q => XT.ior X.here hx rfl hd rfl q
    · cases h
  · split at h
    · cases h; exact fun t q => XT.ixor X.here hx rfl hd rfl q
    · cases h
  · split at h
    · cases h; exact fun t q => XT.ishl X.here hx rfl hd rfl q
    · cases h
  · split at h
    · cases h; exact fun t q => XT.ishr X.here hx rfl hd rfl q
    · cases h
  · split at h
    · cases h; exact fun t q => XT.iushr X.here hx rfl hd rfl q
    · cases h
  · split at h
    · split at h
      · cases h
      · rename_i e1; cases h; exact fun t q => XS.idiv X.here hx rfl hd rfl e1 q
    · cases h
  · split at h
    · split at h
      · cases h
      · rename_i e1; cases h; exact fun t q => iremM X hx rfl hd rfl e1 q
    · cases h
  · split at h
    · cases h; exact fun t q => XS.ineg X.here hx rfl hd rfl q
    · cases h
  -- longs
  · split at h
    · cases h; exact fun t q => XT.ladd X.here hx rfl hd rfl q
    · cases h
  · split at h
    · cases h; exact fun t q => XT.lsub X.here hx rfl hd rfl q
    · cases h
  · split at h
    · cases h; exact fun t q => XT.lmul X.here hx rfl hd rfl q
    · cases h
  · split at h
    · cases h; exact fun t q => XT.land X.here hx rfl hd rfl q
    · cases h
  · split at h
    · cases h; exact fun t q => XT.lor X.here hx rfl hd rfl q
    · cases h
  · split at h
    · cases h; exact fun t q => XT.lxor X.here hx rfl hd rfl q
    · cases h
  · split at h
    · cases h; exact fun t q => XT.lshl X.here hx rfl hd rfl q
    · cases h
  · split at h
    · cases h; exact fun t q => XT.lshr X.here hx rfl hd rfl q
    · cases h
  · split at h
    · cases h; exact fun t q => XT.lushr X.here hx rfl hd rfl q
    · cases h
  · split at h
    · split at h
      · cases h
      · rename_i e1; cases h; exact fun t q => XT.ldiv X.here hx rfl hd rfl e1 q
    · cases h
  · split at h
    · cases h; exact fun t q => XT.lneg X.here hx rfl hd rfl q
    · cases h
  · split at h
    · cases h; exact fun t q => XT.lcmp X.here hx rfl hd rfl q
    · cases h
  · split at h
    · cases h; exact fun t q => XT.i2l X.here hx rfl hd rfl q
    · cases h
  · split at h
    · cases h; exact fun t q => XT.l2i X.here hx rfl hd rfl q
    · cases h
  -- dup, pop
  · split at h
    · cases h; exact fun t q => XS.dup X.here hx rfl hd rfl rfl q
    · cases h; exact fun t q => XS.dup X.here hx rfl hd rfl rfl q
    · cases h
  · split at h
    · cases h; exact fun t q => XT.pop X.here hx rfl hd rfl rfl q
    · cases h; exact fun t q => XT.pop X.here hx rfl hd rfl rfl q
    · cases h
  -- jumps
  · split at h
    · rename_i e1; cases h; exact fun t q => XS.goto X.here hx rfl rfl hd e1 rfl q
    · cases h
  · split at h
    · split at h
      · rename_i e1; cases h
        intro t q
        rw [br_eq] at q
        split at q
        · rename_i e2; exact XS.ifYes X.here hx rfl rfl hd rfl (by rw [if0]; exact e2) e1 rfl q
        · rename_i e2; exact XS.ifNo X.here hx rfl hd rfl (by rw [if0]; simpa using e2) q
      · cases h
    · cases h
  · split at h
    · split at h
      · rename_i e1; cases h
        intro t q
        rw [br_eq] at q
        split at q
        · rename_i e2; exact XS.icmpYes X.here hx rfl rfl hd rfl e2 e1 rfl q
        · rename_i e2; exact XS.icmpNo X.here hx rfl hd rfl (by simpa using e2) q
      · cases h
    · cases h
  · exact absurd rfl hsw
  · cases h
theorem pstep_sound (X : Stand p l e R s m args below meth c T locs cells slots) (hx : p.tables.exec = Jvm.exec) {ρ : Nat → Nat} {i : Instr} {n pc pc' : Nat} {ls ls' : Lv} {st st' : List Value}
    (h : pstep i pc ls st = some (pc', ls', st')) (hd : decode c.code pc = .ok (i, n)) (hn : isSw i = true ∨ n = ilen i) {L : Array Slot} (hL : LR ρ ls L) :
    ∃ L', LR ρ ls' L' ∧ L'.size = L.size ∧ ∀ target, Steps p.tables e below (T.setTop (mkF m pc' L' (st'.map (va ρ)))) target → Steps p.tables e below (T.setTop (mkF m pc L (st.map (va ρ)))) target := by
  by_cases hsw : isSw i = true
  · cases i <;> first | exact absurd hsw Bool.false_ne_true | skip
    simp only [pstep] at h
    split at h
    · rename_i e1; cases h; exact ⟨L, hL, rfl, qstep_sound X hx e1 hd hn⟩
    · cases h
  obtain rfl := hn.resolve_left hsw
  unfold pstep at h
  split at h
  -- loads
  · split at h
    · rename_i e1; cases h; exact ⟨L, hL, rfl, fun t q => XS.iloadN X.here hx rfl hd (hL.2.1 _ _ e1) q⟩
    · cases h
  · split at h
    · rename_i e1; cases h; exact ⟨L, hL, rfl, fun t q => XS.iload X.here hx rfl hd (hL.2.1 _ _ e1) q⟩
    · cases h
  · split at h
    · rename_i e1; cases h; exact ⟨L, hL, rfl, fun t q => XT.lloadN X.here hx rfl hd (hL.2.1 _ _ e1) q⟩
    · cases h
  · split at h
    · rename_i e1; cases h; exact ⟨L, hL, rfl, fun t q => XT.lload X.here hx rfl hd (hL.2.1 _ _ e1) q⟩
    · cases h
  · split at h
    · rename_i e1; cases h; exact ⟨L, hL, rfl, fun t q => XS.aloadN X.here hx rfl hd (hL.2.1 _ _ e1) rfl q⟩
    · cases h
  · split at h
    · rename_i e1; cases h; exact ⟨L, hL, rfl, fun t q => XS.aload X.here hx rfl hd (hL.2.1 _ _ e1) rfl q⟩
    · cases h
  -- stores
  · split at h
    · split at h
      · rename_i e1; cases h
        obtain ⟨L', a1, a2, a3⟩ := store_ok hL (fun x => by simp) e1
        exact ⟨L', a2, a3, fun t q => XS.istoreN X.here hx rfl hd rfl a1 q⟩
      · cases h
    · cases h
  · split at h
    · split at h
      · rename_i e1; cases h
        obtain ⟨L', a1, a2, a3⟩ := store_ok hL (fun x => by simp) e1
        exact ⟨L', a2, a3, fun t q => XS.istore X.here hx rfl hd rfl a1 q⟩
      · cases h
    · cases h
  · split at h
    · split at h
      · rename_i e1; cases h
        obtain ⟨L', a1, a2, a3⟩ := store_ok hL (fun x => by simp) e1
        exact ⟨L', a2, a3, fun t q => XT.lstoreN X.here hx rfl hd rfl a1 q⟩
      · cases h
    · cases h
  · split at h
    · split at h
      · rename_i e1; cases h
        obtain ⟨L', a1, a2, a3⟩ := store_ok hL (fun x => by simp) e1
        exact ⟨L', a2, a3, fun t q => XT.lstore X.here hx rfl hd rfl a1 q⟩
      · cases h
    · cases h
  · split at h
    · split at h
      · rename_i e1; cases h
        obtain ⟨L', a1, a2, a3⟩ := store_ok hL (fun x => by simp) e1
        exact ⟨L', a2, a3, fun t q => XS.astoreN X.here hx rfl hd rfl rfl a1 q⟩
      · cases h
    · cases h
  · split at h
    · split at h
      · rename_i e1; cases h
        obtain ⟨L', a1, a2, a3⟩ := store_ok hL (fun x => by simp) e1
        exact ⟨L', a2, a3, fun t q => XS.astore X.here hx rfl hd rfl rfl a1 q⟩
      · cases h
    · cases h
  · split at h
    · rename_i e0
      split at h
      · rename_i e1; cases h
        obtain ⟨L', a1, a2, a3⟩ := store_ok hL (fun x => by simp) e1
        exact ⟨L', a2, a3, fun t q => XS.iinc X.here hx rfl hd (hL.2.1 _ _ e0) a1 q⟩
      · cases h
    · cases h
  · rename_i hq
    split at h
    · rename_i e1; cases h; exact ⟨L, hL, rfl, qstep_sound X hx e1 hd hn⟩
    · cases h
end Pure
/-! the class's own machine -/
def nd : List Value → Bool
  | [] => true
  | .double _ :: _ => false
  | _ :: r => nd r
theorem nd_spec {as : List Value} (h : nd as = true) : ∀ v ∈ as, ∀ x, v ≠ .double x := by
  induction as with
  | nil => intro v hv; cases hv
  | cons w r ih =>
    intro v hv x e
    rcases List.mem_cons.mp hv with q | q
    · subst q; subst e; cases h
    · refine ih ?_ v q x e
      cases w <;> first | exact h | cases h
def layA : List Value → Lv
  | [] => []
  | .long x :: r => some (.long x) :: none :: layA r
  | v :: r => some v :: layA r
def lay (as : List Value) (n : Nat) : Lv := layA as ++ List.replicate (n - (layA as).length) none
def cats (st : List Value) : Nat := (st.map fun v => v.category).sum
def tyOf : Nat → FieldType
  | 0 => .int
  | 1 => .boolean
  | _ => .long
def atOf : Nat → ArrayType
  | 0 => .int
  | 1 => .boolean
  | _ => .long
def retOf : Nat → Option FieldType
  | 0 => none
  | 1 => some .int
  | 2 => some .boolean
  | _ => some .long
def zs (al : List (Nat × Nat)) (c : Nat) : Nat := ((al.take c).map (·.2)).sum
abbrev Rs := Option (Option Value × St)
def cret (me : Me) (st : List Value) (i : Instr) : Option (Option Value) :=
  match i with
  | .ireturn => match st with
    | [.int x] => if me.rt = 1 then some (some (.int x)) else if me.rt = 2 then some (some (.int (x &&& 1))) else none
    | _ => none
  | .lreturn => match st with
    | [.long x] => if me.rt = 3 then some (some (.long x)) else none
    | _ => none
  | .return_ => match st with
    | [] => if me.rt = 0 then some none else none
    | _ => none
  | _ => none
def isRet : Instr → Bool
  | .ireturn => true
  | .lreturn => true
  | .return_ => true
  | _ => false
def gfld (P : Cl) (x : Nat) (c : Nat) (s : St) : Option Value :=
  match asc P.fx x with
  | none => none
  | some k => match asc P.fs k with
    | none => none
    | some fe => match fe.2.2.1 with
      | 0 => some (.int (gI s 0 k))
      | 1 => some (.int (gI s 0 k))
      | 2 => some (.long (gL s 0 k))
      | j + 3 => if j < c then some (.ref (j + 1)) else none
def pfld (P : Cl) (x : Nat) (ini : Bool) (v : Value) (s : St) : Option St :=
  match asc P.fx x with
  | none => none
  | some k => match asc P.fs k with
    | none => none
    | some fe => if fe.2.2.2 = true ∧ ini = false then none else
      match fe.2.2.1, v with
      | 0, .int z => some (sI s 0 k z)
      | 1, .int z => some (sI s 0 k (z &&& 1))
      | 2, .long z => some (sL s 0 k z)
      | _, _ => none
def newF (P : Cl) (t : ArrayType) (cd : Cd) (pc c : Nat) (st : List Value) : Bool :=
  match st with
  | [.int n, .ref 0] => match fetch cd (pc + 2) with
    | some (.putfield x, 3) => match asc P.fx x with
      | some k => match asc P.fs k with
        | some fe => match P.al[c]? with
          | some (tt, N) => decide (fe.2.2.1 = c + 3 ∧ t = atOf tt ∧ 0 ≤ n.toInt ∧ n.toInt = N ∧ N < 1000000)
          | none => false
        | none => false
      | none => false
    | _ => false
  | _ => false
def lda (P : Cl) (tt c : Nat) (st : List Value) (s : St) : Option (List Value) :=
  match st with
  | .int i :: .ref (a + 1) :: r => match P.al[a]? with
    | some (t2, N) => if t2 = tt ∧ a < c then (if inb N i then some ((if tt = 2 then .long (gL s (a + 1) (ix i)) else .int (gI s (a + 1) (ix i))) :: r) else none) else none
    | none => none
  | _ => none
def sta (P : Cl) (tt c : Nat) (st : List Value) (s : St) : Option (List Value × St) :=
  match st with
  | v :: .int i :: .ref (a + 1) :: r => match P.al[a]? with
    | some (t2, N) => if t2 = tt ∧ a < c then (if inb N i then (match tt, v with
        | 0, .int z => some (r, sI s (a + 1) (ix i) z)
        | 1, .int z => some (r, sI s (a + 1) (ix i) (z &&& 1))
        | 2, .long z => some (r, sL s (a + 1) (ix i) z)
        | _, _ => none) else none) else none
    | none => none
  | _ => none
def cstep {α : Type} (P : Cl) (mi : Nat) (me : Me) (rt : Option Value → St → Option α) (cl : Nat → Nat → List Value → St → Rs) (k : Nat → Nat → Lv → List Value → St → Option α) (i : Instr) (c pc : Nat) (ls : Lv) (st : List Value) (s : St) : Option α :=
  match i with
  | .getfield x => match st with
    | .ref 0 :: r => (match gfld P x c s with | some v => k c (pc + 3) ls (v :: r) s | none => none)
    | _ => none
  | .putfield x => match st with
    | v :: .ref 0 :: r => (match pfld P x (mi == 0) v s with | some s' => k c (pc + 3) ls r s' | none => none)
    | _ => none
  | .iaload => match lda P 0 c st s with | some st' => k c (pc + 1) ls st' s | none => none
  | .baload => match lda P 1 c st s with | some st' => k c (pc + 1) ls st' s | none => none
  | .laload => match lda P 2 c st s with | some st' => k c (pc + 1) ls st' s | none => none
  | .iastore => match sta P 0 c st s with | some (st', s') => k c (pc + 1) ls st' s' | none => none
  | .bastore => match sta P 1 c st s with | some (st', s') => k c (pc + 1) ls st' s' | none => none
  | .lastore => match sta P 2 c st s with | some (st', s') => k c (pc + 1) ls st' s' | none => none
  | .newarray t => if mi = 0 ∧ newF P t me.cd pc c st = true then k (c + 1) (pc + 5) ls [] s else none
  | .ldc x => match asc P.kx x with | some (.int z) => k c (pc + 2) ls (.int z :: st) s | _ => none
  | .ldc2_w x => match asc P.kx x with | some (.long z) => k c (pc + 3) ls (.long z :: st) s | _ => none
  | .invokespecial x => match st with
    | .ref 0 :: r => if x = P.oi ∧ 1 ≤ me.rf ∧ cats r + 12 ≤ me.rl then k c (pc + 3) ls r s else none
    | _ => none
  | .invokevirtual x => match asc P.mx x with
    | none => none
    | some m' => match asc P.ms m' with
      | none => none
      | some me' => match st.drop me'.na with
        | .ref 0 :: r => if m' ≠ 0 ∧ me'.rf + 1 ≤ me.rf ∧ cats r + (me'.ml + 11) + me'.rl ≤ me.rl ∧ nd (st.take me'.na) = true then
            (match cl m' c (.ref 0 :: (st.take me'.na).reverse) s with
             | some (none, s') => k c (pc + 3) ls r s'
             | some (some v, s') => k c (pc + 3) ls (v :: r) s'
             | none => none) else none
        | _ => none
  | i => if isRet i = true then (if mi = 0 ∧ c ≠ P.al.length then none else match cret me st i with | some v => rt v s | none => none)
    else match pstep i pc ls st with | some (pc', ls', st') => k c pc' ls' st' s | none => none
def cexec (P : Cl) : Nat → Nat → Me → Nat → Nat → Lv → List Value → St → Rs
  | 0, _, _, _, _, _, _, _ => none
  | f + 1, mi, me, c, pc, ls, st, s => match fetch me.cd pc with
    | none => none
    | some (i, _) => cstep P mi me (fun v s => some (v, s)) (fun m' c as s => match asc P.ms m' with | some me' => (if (layA as).length ≤ me'.ml then cexec P f m' me' c 0 (lay as me'.ml) [] s else none) | none => none) (cexec P f mi me) i c pc ls st s
def ccall (P : Cl) (f m' c : Nat) (as : List Value) (s : St) : Rs := match asc P.ms m' with | some me' => (if (layA as).length ≤ me'.ml then cexec P f m' me' c 0 (lay as me'.ml) [] s else none) | none => none
end Jvm.LM

namespace Jvm.LM
open Sem ClassFile Op Lib Jvm.Stand Jvm.Free Jvm.LawKit Jvm.RoadKit
/-! how the machine's state stands in the heap -/
theorem adr_ne (a j : Nat) : a + (j + 1) ≠ a := by omega
theorem adr_ne' (a j : Nat) : a ≠ a + (j + 1) := by omega
theorem adr_ne2 (a : Nat) {j k : Nat} (h : j ≠ k) : a + (j + 1) ≠ a + (k + 1) := by omega
def Fval (adr c : Nat) (s : St) (k : Nat) (fe : Fe) : Value :=
  match fe.2.2.1 with
  | 0 => .int (gI s 0 k)
  | 1 => .int (gI s 0 k)
  | 2 => .long (gL s 0 k)
  | j + 3 => if j < c then .ref (adr + (j + 1)) else .null
def elv (tt : Nat) (s : St) (j i : Nat) : Value := if tt = 2 then .long (gL s j i) else .int (gI s j i)
def ARep (Z : State) (h : Heap) (a tt N : Nat) (s : St) (j : Nat) : Prop :=
  ∃ cl : Cell, Arr Z h a cl (tyOf tt) ∧ cl.slots.size = N ∧ ∀ i, i < N → cl.slots[i]? = some (elv tt s j i)
def HRep (P : Cl) (Z : State) (h : Heap) (adr c : Nat) (s : St) : Prop :=
  Exa Z h adr P.nm ∧ (∀ k fe, asc P.fs k = some fe → Fld Z h adr P.nm fe.1 fe.2.1 (Fval adr c s k fe)) ∧
  (∀ (j tt N : Nat), P.al[j]? = some (tt, N) → j < c → ARep Z h (adr + (j + 1)) tt N s (j + 1)) ∧
  (∀ j i, c < j → gI s j i = 0 ∧ gL s j i = 0) ∧ c ≤ P.al.length
def fkTy (P : Cl) : Nat → FieldType
  | 0 => .int
  | 1 => .boolean
  | 2 => .long
  | j + 3 => .array (tyOf ((P.al[j]?.map (·.1)).getD 0))
def yOf (P : Cl) (me : Me) : MethodName := ⟨P.nm, me.nm, me.ds⟩
def LinkC (P : Cl) (Z : State) (a0 : Array Value) : Prop :=
  ((∃ nF, (Cond.instantiable P.nm nF).before a0 Z = true) ∧ (Cond.initialized P.nm).before a0 Z = true) ∧
  (∀ x k, asc P.fx x = some k → ∀ fe, asc P.fs k = some fe → (Cond.fieldLink P.nm x P.nm fe.1 fe.2.1).before a0 Z = true) ∧
  (∀ k fe, asc P.fs k = some fe → (if fe.2.2.2 = true then Cond.laysFinal P.nm P.nm fe.1 fe.2.1 else Cond.lays P.nm P.nm fe.1 fe.2.1).before a0 Z = true) ∧
  (∀ k fe, asc P.fs k = some fe → parseFieldDescriptor fe.2.1 = some (fkTy P fe.2.2.1)) ∧
  (∀ k k' fe fe', asc P.fs k = some fe → asc P.fs k' = some fe' → k ≠ k' → fe.1 ≠ fe'.1 ∧ (3 ≤ fe.2.2.1 → fe.2.2.1 ≠ fe'.2.2.1)) ∧
  (∀ (j tt N : Nat), P.al[j]? = some (tt, N) → tt ≤ 2 ∧ (Cond.arrayClass (tyOf tt)).before a0 Z = true) ∧
  (∀ x v, asc P.kx x = some v → match v with
    | .int z => (Cond.constant P.nm x z).before a0 Z = true
    | .long z => (Cond.constantLong P.nm x z).before a0 Z = true
    | _ => True) ∧
  ((Cond.methodLink P.nm P.oi Lib.objectInit).before a0 Z = true ∧ (Cond.instanceMethod Lib.objectInit).before a0 Z = true ∧ (Cond.code Lib.objectInit ⟨#[0xb1]⟩ 1 none).before a0 Z = true) ∧
  (∀ mi me, asc P.ms mi = some me → ∃ (bytes : ByteArray) (ps : List FieldType), (Cond.code (yOf P me) bytes me.ml (retOf me.rt)).before a0 Z = true ∧
    (∀ pc i n, fetch me.cd pc = some (i, n) → decode bytes pc = .ok (i, n) ∧ (isSw i = true ∨ n = ilen i)) ∧ parseMethodDescriptor me.ds = some ⟨ps, retOf me.rt⟩ ∧ ps.length = me.na) ∧
  (∀ x mi, asc P.mx x = some mi → ∀ me, asc P.ms mi = some me → (Cond.methodLink P.nm x (yOf P me)).before a0 Z = true ∧ (Cond.instanceMethod (yOf P me)).before a0 Z = true ∧
    ((Cond.privateMethod (yOf P me)).before a0 Z = true ∨ ((Cond.declares (yOf P me)).before a0 Z = true ∧ (Cond.selects P.nm (yOf P me) (yOf P me)).before a0 Z = true))) ∧
  plainName P.nm = true ∧ (P.nm ≠ "java/lang/invoke/MethodHandle" ∧ P.nm ≠ "java/lang/invoke/VarHandle") ∧ (∀ me, asc P.ms 0 = some me → me.nm = "<init>")
theorem gI_sI (s : St) (c j : Nat) (v : Int32) (a b : Nat) : gI (sI s c j v) a b = if a = c ∧ b = j then v else gI s a b := rfl
theorem gL_sI (s : St) (c j : Nat) (v : Int32) (a b : Nat) : gL (sI s c j v) a b = gL s a b := rfl
theorem gI_sL (s : St) (c j : Nat) (v : Int64) (a b : Nat) : gI (sL s c j v) a b = gI s a b := rfl
theorem gL_sL (s : St) (c j : Nat) (v : Int64) (a b : Nat) : gL (sL s c j v) a b = if a = c ∧ b = j then v else gL s a b := rfl
theorem laid_of {P : Cl} {Z : State} {a0 : Array Value} (LK : LinkC P Z a0) {k : Nat} {fe : Fe} (hk : asc P.fs k = some fe) : Laid Z a0 P.nm P.nm fe.1 fe.2.1 := by
  have q := LK.2.2.1 k fe hk
  split at q
  · exact Or.inr q
  · exact Or.inl q
/-- a heap that is alike where the object lies -/
theorem HRep.congr {P : Cl} {Z : State} {h h' : Heap} {adr c : Nat} {s : St} (H : HRep P Z h adr c s) (e : ∀ x, adr ≤ x → x < adr + 1 + P.al.length → h'[x]? = h[x]?) : HRep P Z h' adr c s := by
  obtain ⟨h1, h2, h3, h4, h5⟩ := H
  have ea : h'[adr]? = h[adr]? := e adr (Nat.le_refl _) (by omega)
  refine ⟨?_, fun k fe hk => ?_, fun j tt N hj hc => ?_, h4, h5⟩
  · obtain ⟨cell, k, q1, r⟩ := h1; exact ⟨cell, k, by rw [ea]; exact q1, r⟩
  · obtain ⟨cell, cf, k, i, f, q1, r⟩ := h2 k fe hk; exact ⟨cell, cf, k, i, f, by rw [ea]; exact q1, r⟩
  · obtain ⟨cl, ⟨q1, q2⟩, q3⟩ := h3 j tt N hj hc
    exact ⟨cl, ⟨by rw [e _ (by omega) (by omega)]; exact q1, q2⟩, q3⟩
theorem HRep.putFld {P : Cl} {Z : State} {a0 : Array Value} (LK : LinkC P Z a0) {h h' : Heap} {adr c k : Nat} {fe : Fe} {s s' : St} {v : Value} (H : HRep P Z h adr c s) (hk : asc P.fs k = some fe)
    (W : Wr h h' adr (RoadKit.slotOf Z P.nm fe.1 fe.2.1) v) (hv : v = Fval adr c s' k fe) (hI : ∀ a b, (a ≠ 0 ∨ b ≠ k) → gI s' a b = gI s a b ∧ gL s' a b = gL s a b) : HRep P Z h' adr c s' := by
  obtain ⟨h1, h2, h3, h4, h5⟩ := H
  refine ⟨h1.wr W, fun k2 fe2 hk2 => ?_, fun j tt N hj hc => ?_, fun j i hj => ?_, h5⟩
  · by_cases e : k2 = k
    · subst e; cases hk.symm.trans hk2
      rw [← hv]; exact (h2 _ _ hk).same W
    · have hne := (LK.2.2.2.2.1 _ _ _ _ hk2 hk e).1
      have q := (h2 _ _ hk2).other W (Or.inr (slot_ne (laid_of LK hk2) (laid_of LK hk) hne (LK.2.2.2.1 _ _ hk2) (LK.2.2.2.1 _ _ hk)))
      have e2 : Fval adr c s' k2 fe2 = Fval adr c s k2 fe2 := by
        have := hI 0 k2 (Or.inr e)
        simp only [Fval]; split <;> simp [this.1, this.2]
      rw [e2]; exact q
  · obtain ⟨cl, q1, q2, q3⟩ := h3 j tt N hj hc
    refine ⟨cl, q1.other W (adr_ne _ _), q2, fun i hi => ?_⟩
    have := hI (j + 1) i (Or.inl (by omega))
    rw [q3 i hi]; simp only [elv, this.1, this.2]
  · have := hI j i (Or.inl (by omega))
    rw [this.1, this.2]; exact h4 j i hj
theorem HRep.putArr {P : Cl} {Z : State} {h h' : Heap} {adr c a tt N n : Nat} {s s' : St} {v : Value} (H : HRep P Z h adr c s) (ha : P.al[a]? = some (tt, N)) (hac : a < c) (hn : n < N)
    (W : Wr h h' (adr + (a + 1)) n v) (hv : v = elv tt s' (a + 1) n) (hI : ∀ x y, (x ≠ a + 1 ∨ y ≠ n) → gI s' x y = gI s x y ∧ gL s' x y = gL s x y) : HRep P Z h' adr c s' := by
  obtain ⟨h1, h2, h3, h4, h5⟩ := H
  refine ⟨h1.wr W, fun k fe hk => ?_, fun j tt2 N2 hj hc => ?_, fun j i hj => ?_, h5⟩
  · have q := (h2 _ _ hk).other W (Or.inl (adr_ne' _ _))
    have e2 : Fval adr c s' k fe = Fval adr c s k fe := by
      have := hI 0 k (Or.inl (by omega))
      simp only [Fval]; split <;> simp [this.1, this.2]
    rw [e2]; exact q
  · obtain ⟨cl, q1, q2, q3⟩ := h3 j tt2 N2 hj hc
    by_cases e : j = a
    · subst e; cases ha.symm.trans hj
      refine ⟨cl.setSlot n v, q1.same W, by rw [sz_set]; exact q2, fun i hi => ?_⟩
      by_cases ei : i = n
      · subst ei; rw [← hv]; simp [Cell.setSlot, q2, hi]
      · have := hI (j + 1) i (Or.inr ei)
        have q4 := q3 i hi
        simp only [elv, this.1, this.2] at q4 ⊢
        simp only [Cell.setSlot]
        rw [Array.getElem?_setIfInBounds_ne (fun q => ei q.symm)]; exact q4
    · refine ⟨cl, q1.other W (adr_ne2 _ e), q2, fun i hi => ?_⟩
      have := hI (j + 1) i (Or.inl (by omega))
      rw [q3 i hi]; simp only [elv, this.1, this.2]
  · have := hI j i (Or.inl (by omega))
    rw [this.1, this.2]; exact h4 j i hj
theorem HRep.newArr {P : Cl} {Z : State} {a0 : Array Value} (LK : LinkC P Z a0) {h h1 h2 : Heap} {adr c k tt N : Nat} {fe : Fe} {s : St} {n : Int32} {cA : ClassId} (H : HRep P Z h adr c s) (hk : asc P.fs k = some fe) (hkd : fe.2.2.1 = c + 3)
    (ha : P.al[c]? = some (tt, N)) (hn0 : 0 ≤ n.toInt) (hn : n.toInt = N) (hsz : h.size = adr + 1 + c) (E : Ext h h1) (A : Arr Z h1 h.size (newA cA (tyOf tt) n) (tyOf tt)) (W : Wr h1 h2 adr (RoadKit.slotOf Z P.nm fe.1 fe.2.1) (.ref h.size)) : HRep P Z h2 adr (c + 1) s := by
  obtain ⟨g1, g2, g3, g4, g5⟩ := H
  have hc : c < P.al.length := (List.getElem?_eq_some_iff.mp ha).1
  have hNn : n.toNatClampNeg = N := by simp only [Int32.toNatClampNeg]; omega
  have htt := (LK.2.2.2.2.2.1 _ _ _ ha).1
  refine ⟨(g1.ext E).wr W, fun k2 fe2 hk2 => ?_, fun j tt2 N2 hj hjc => ?_, fun j i hj => g4 j i (by omega), hc⟩
  · by_cases e : k2 = k
    · subst e; cases hk.symm.trans hk2
      have q := ((g2 _ _ hk).ext E).same W
      have e2 : Fval adr (c + 1) s k2 fe = .ref h.size := by simp only [Fval, hkd]; rw [if_pos (Nat.lt_succ_self c), hsz]; exact congrArg Value.ref (show adr + (c + 1) = adr + 1 + c by omega)
      rw [e2]; exact q
    · have hne := LK.2.2.2.2.1 _ _ _ _ hk2 hk e
      have q := ((g2 _ _ hk2).ext E).other W (Or.inr (slot_ne (laid_of LK hk2) (laid_of LK hk) hne.1 (LK.2.2.2.1 _ _ hk2) (LK.2.2.2.1 _ _ hk)))
      have e2 : Fval adr (c + 1) s k2 fe2 = Fval adr c s k2 fe2 := by
        simp only [Fval]; split
        · rfl
        · rfl
        · rfl
        · rename_i j hj
          have : j ≠ c := fun q => (hne.2 (by rw [hj]; omega)) (by rw [hj, hkd, q])
          by_cases b : j < c
          · rw [if_pos b, if_pos (by omega)]
          · rw [if_neg b, if_neg (by omega)]
      rw [e2]; exact q
  · by_cases e : j = c
    · subst e; cases ha.symm.trans hj
      have hA : Arr Z h2 h.size (newA cA (tyOf tt) n) (tyOf tt) := A.other W (show h.size ≠ adr by omega)
      refine ⟨newA cA (tyOf tt) n, by rw [show adr + (j + 1) = h.size by omega]; exact hA, by rw [sz_new]; exact hNn, fun i hi => ?_⟩
      have z := g4 (j + 1) i (by omega)
      simp only [newA, hNn, elv, z.1, z.2]
      rw [Array.getElem?_replicate, if_pos hi]
      have : tt = 0 ∨ tt = 1 ∨ tt = 2 := by omega
      rcases this with rfl | rfl | rfl <;> rfl
    · obtain ⟨cl, q1, q2, q3⟩ := g3 j tt2 N2 hj (by omega)
      exact ⟨cl, (q1.ext E).other W (adr_ne _ _), q2, q3⟩
/-- outside the object nothing moves -/
def Kp (h0 h : Heap) (adr n : Nat) : Prop := ∀ x, (x < adr ∨ adr + 1 + n ≤ x) → h[x]? = h0[x]?
theorem Kp.wr {h0 h h' : Heap} {adr n a sl : Nat} {v : Value} (K : Kp h0 h adr n) (W : Wr h h' a sl v) (h1 : adr ≤ a) (h2 : a < adr + 1 + n) : Kp h0 h' adr n := fun x hx => by
  obtain ⟨cell, q1, q2, q3, rfl⟩ := W
  rw [Array.getElem?_setIfInBounds_ne (by omega)]; exact K x hx
theorem Kp.ext {h0 h h' : Heap} {adr n : Nat} (K : Kp h0 h adr n) (E : Ext h h') (h1 : h'.size ≤ adr + 1 + n) (h2 : adr ≤ h.size) : Kp h0 h' adr n := fun x hx => by
  rw [← K x hx]
  by_cases b : x < h.size
  · obtain ⟨c, hc⟩ : ∃ c, h[x]? = some c := ⟨h[x], Array.getElem?_eq_getElem b⟩
    rw [hc]; exact E.2 _ _ hc
  · rw [Array.getElem?_eq_none (by omega), Array.getElem?_eq_none (by omega)]
theorem Kp.trans {h0 h h' : Heap} {adr n : Nat} (K : Kp h0 h adr n) (K' : Kp h h' adr n) : Kp h0 h' adr n := fun x hx => (K' x hx).trans (K x hx)
def cRoom (P : Cl) (mi : Nat) (me : Me) : Room := { frames := me.rf, cells := if mi = 0 then P.al.length else 0, slots := if mi = 0 then zs P.al P.al.length else 0, locals := me.rl }
def QC (P : Cl) (Z : State) (n0 adr mi c : Nat) (w : Option Value) (s' : St) (h0 : Heap) (v : Option Value) (h : Heap) (L : List Loc) : Prop :=
  (v = w ∧ ∀ ρ, v.toList.map (va ρ) = v.toList) ∧ Fr n0 L ∧ HRep P Z h adr (if mi = 0 then P.al.length else c) s' ∧ Kp h0 h adr P.al.length ∧ h.size = (if mi = 0 then adr + 1 + P.al.length else h0.size)
/-- the run from S ends, and so -/
def Don (p : Program) (e : Env) (below : List Frame) (s₀ : State) (rm : Room) (Q : Option Value → Heap → List Loc → Prop) (S : State) : Prop :=
  ∃ s₂ o, Steps p.tables e below S s₂ ∧ s₂.status = .running ∧ Ended s₂ below o ∧ ∃ v L, o = .returned v ∧ Q v s₂.heap L ∧ FrameEnd s₀ o s₂ L rm.cells rm.slots
theorem Don.step {p : Program} {e : Env} {below : List Frame} {s₀ : State} {rm : Room} {Q : Option Value → Heap → List Loc → Prop} {S S' : State} (h : ∀ t, Steps p.tables e below S' t → Steps p.tables e below S t) (D : Don p e below s₀ rm Q S') : Don p e below s₀ rm Q S := by
  obtain ⟨s₂, o, h1, h2⟩ := D; exact ⟨s₂, o, h _ h1, h2⟩
def Inv (P : Cl) (Z : State) (n0 adr mi c : Nat) (s : St) (h0 h : Heap) (locs : List Loc) : Prop :=
  HRep P Z h adr c s ∧ Fr n0 locs ∧ Kp h0 h adr P.al.length ∧ h.size = (if mi = 0 then adr + 1 + c else h0.size)
def co (mi c : Nat) : Nat := if mi = 0 then c else 0
def zo (P : Cl) (mi c : Nat) : Nat := if mi = 0 then zs P.al c else 0
/-- what the walk of a body is to show, at a given fuel -/
def CW (P : Cl) (Z : State) (n0 adr f mi : Nat) (me : Me) : Prop :=
  ∀ (p : Program) (l : Launch) (e : Env) (s₀ : State) (m : MethodId) (args : Array Value) (below : List Frame) (meth : Method) (cd : Code) (T : State) (locs : List Loc) (h0 : Heap) (c pc : Nat) (ls : Lv) (st : List Value) (s : St) (v : Option Value) (s' : St) (L : Array Slot),
    p.tables.exec = Jvm.exec → Z.Warmed39 s₀.vm → s₀.vm.findClass P.nm = some m.cls → meth.name = me.nm → meth.sig.returnType = retOf me.rt → cd.maxLocals = me.ml → meth.locks = false → (mi = 0 → s₀.heap.size = adr + 1) →
    (∀ pc i n, fetch me.cd pc = some (i, n) → decode cd.code pc = .ok (i, n) ∧ (isSw i = true ∨ n = ilen i)) →
    cexec P f mi me c pc ls st s = some (v, s') →
    Stand p l e (cRoom P mi me) s₀ m args below meth cd T locs (co mi c) (zo P mi c) →
    Inv P Z n0 adr mi c s h0 T.heap locs → LR (adr + ·) ls L → ls.length = me.ml →
    Don p e below s₀ (cRoom P mi me) (QC P Z n0 adr mi c v s' h0) (T.setTop (mkF m pc L (st.map (va (adr + ·)))))
theorem zs_mono (al : List (Nat × Nat)) {a b : Nat} (h : a ≤ b) : zs al a ≤ zs al b := by
  obtain ⟨d, rfl⟩ := Nat.le.dest h
  simp only [zs]
  rw [List.take_add, List.map_append, List.sum_append]; omega
theorem zs_succ (al : List (Nat × Nat)) {c tt N : Nat} (h : al[c]? = some (tt, N)) : zs al (c + 1) = zs al c + N := by
  simp only [zs, List.take_add_one, h]; simp
theorem zs_le (al : List (Nat × Nat)) (a : Nat) : zs al a ≤ zs al al.length := by
  by_cases h : a ≤ al.length
  · exact zs_mono al h
  · simp only [zs]; rw [List.take_of_length_le (by omega), List.take_of_length_le (Nat.le_refl _)]
    exact Nat.le_refl _
theorem narrow_I (z : Int32) : narrow .int (.int z) = .int z := rfl
theorem inb_not {n : Nat} {i : Int32} (h : inb n i) : ¬ (i < 0 ∨ n ≤ i.toNatClampNeg) := by
  intro q
  simp only [Int32.lt_iff_toInt_lt, Int32.toNatClampNeg, Int32.reduceToInt] at q
  have := h.1; have := h.2
  omega
theorem inb_ix {n : Nat} {i : Int32} (h : inb n i) : ix i < n := by
  have := h.1; have := h.2
  simp only [ix, Int32.toNatClampNeg]; omega
end Jvm.LM

namespace Jvm.LM
open Sem ClassFile Op Lib Jvm.Stand Jvm.Free Jvm.LawKit Jvm.RoadKit
/-! entering a method -/
def slA : List Value → List Slot
  | [] => []
  | v :: r => if v.category = 2 then .val v :: .second :: slA r else .val v :: slA r
theorem foldl_slA (as : List Value) (acc : Array Slot) : as.foldl (fun acc v => if v.category = 2 then (acc.push (.val v)).push .second else acc.push (.val v)) acc = acc ++ (slA as).toArray := by
  induction as generalizing acc with
  | nil => simp [slA]
  | cons v r ih =>
    rw [List.foldl_cons, ih]
    simp only [slA]
    split <;> simp
theorem al_eq (args : Array Value) (n : Nat) : argsToLocals args n = (let filled := args.foldl (init := #[]) fun acc v => if v.category = 2 then (acc.push (.val v)).push .second else acc.push (.val v); filled ++ Array.replicate (n - filled.size) .unset) := rfl
theorem atl_eq (as : List Value) (n : Nat) : argsToLocals as.toArray n = (slA as ++ List.replicate (n - (slA as).length) Slot.unset).toArray := by
  rw [al_eq]
  have : Array.foldl (fun acc v => if v.category = 2 then (acc.push (Slot.val v)).push .second else acc.push (.val v)) #[] as.toArray = (slA as).toArray := by
    rw [List.foldl_toArray, foldl_slA]; simp
  simp only [this]
  simp
theorem wfl_one {x : Slot} {l : List Slot} (h : WFf (fun k => l[k]?)) (hx : x ≠ .second) (hc : ∀ v, x = .val v → v.category ≠ 2) : WFf (fun k => (x :: l)[k]?) := by
  obtain ⟨h1, h2, h3⟩ := h
  refine ⟨fun k v hk hv => ?_, fun k hk => ?_, ?_⟩
  · cases k with
    | zero => simp at hk; exact absurd hv (hc v hk)
    | succ k => simp at hk ⊢; exact h1 k v hk hv
  · cases k with
    | zero => simp at hk; exact absurd (by simpa using hk) h3
    | succ k => simp at hk ⊢; exact h2 k (by simpa using hk)
  · simpa using hx
theorem wfl_two {v : Value} {l : List Slot} (h : WFf (fun k => l[k]?)) (hc : v.category = 2) : WFf (fun k => (Slot.val v :: .second :: l)[k]?) := by
  obtain ⟨h1, h2, h3⟩ := h
  refine ⟨fun k w hk hv => ?_, fun k hk => ?_, by simp⟩
  · match k with
    | 0 => simp
    | 1 => simp at hk
    | k + 2 => simp at hk ⊢; exact h1 k w hk hv
  · match k with
    | 0 => exact ⟨v, by simp, hc⟩
    | 1 => exact absurd (by simpa using hk) h3
    | k + 2 => simp at hk ⊢; exact h2 k (by simpa using hk)
theorem wfl_rep (n : Nat) : WFf (fun k => (List.replicate n Slot.unset)[k]?) := by
  refine ⟨fun k v hk _ => ?_, fun k hk => ?_, ?_⟩
  · simp [List.getElem?_replicate] at hk
  · simp [List.getElem?_replicate] at hk
  · simp [List.getElem?_replicate]
theorem wfl_slA (as : List Value) (r : List Slot) (h : WFf (fun k => r[k]?)) : WFf (fun k => (slA as ++ r)[k]?) := by
  induction as with
  | nil => simpa [slA] using h
  | cons v t ih =>
    simp only [slA]
    split
    · rename_i hc; exact wfl_two ih hc
    · rename_i hc; exact wfl_one ih (by simp) (fun w hw => by cases hw; exact hc)
theorem slA_len (ρ : Nat → Nat) (as : List Value) (hd : ∀ v ∈ as, ∀ x, v ≠ .double x) : (slA (as.map (va ρ))).length = (layA as).length := by
  induction as with
  | nil => rfl
  | cons v t ih =>
    have ih := ih fun w hw => hd w (List.mem_cons_of_mem _ hw)
    cases v <;> simp [slA, layA, va, Value.category, ih]
    exact absurd rfl (hd _ (List.mem_cons_self ..) _)
theorem layA_get {ρ : Nat → Nat} {as : List Value} (hd : ∀ v ∈ as, ∀ x, v ≠ .double x) {k : Nat} {w : Value} (h : (layA as)[k]? = some (some w)) : (slA (as.map (va ρ)))[k]? = some (.val (va ρ w)) := by
  induction as generalizing k with
  | nil => simp [layA] at h
  | cons v t ih =>
    have ih' := fun {k} => ih (k := k) fun w hw => hd w (List.mem_cons_of_mem _ hw)
    cases v
    case long x =>
      simp only [layA] at h
      match k with
      | 0 => simp at h; subst h; simp [slA, va, Value.category]
      | 1 => simp at h
      | k + 2 => simp at h; simpa [slA, va, Value.category] using ih' h
    case double x => exact absurd rfl (hd _ (List.mem_cons_self ..) _)
    all_goals
      simp only [layA] at h
      match k with
      | 0 => simp at h; subst h; simp [slA, va, Value.category]
      | k + 1 => simp at h; simpa [slA, va, Value.category] using ih' h
theorem lay_LR {ρ : Nat → Nat} {as : List Value} (hd : ∀ v ∈ as, ∀ x, v ≠ .double x) {n : Nat} (hn : (layA as).length ≤ n) : LR ρ (lay as n) (argsToLocals (as.map (va ρ)).toArray n) := by
  rw [atl_eq]
  have hl := slA_len ρ as hd
  refine ⟨by simp [lay, hl], fun k w hk => ?_, ?_⟩
  · simp only [lay] at hk
    rw [List.getElem?_append] at hk
    split at hk
    · have := layA_get (ρ := ρ) hd hk
      rw [List.getElem?_toArray, List.getElem?_append_left (by omega)]; exact this
    · simp [List.getElem?_replicate] at hk
  · have := wfl_slA (as.map (va ρ)) (List.replicate (n - (slA (as.map (va ρ))).length) Slot.unset) (wfl_rep _)
    have q : WFf (fun k => ((slA (as.map (va ρ)) ++ List.replicate (n - (slA (as.map (va ρ))).length) Slot.unset).toArray)[k]?) := by
      simpa using this
    exact q
theorem lay_len {as : List Value} {n : Nat} (hn : (layA as).length ≤ n) : (lay as n).length = n := by simp [lay]; omega
section Call
variable {p : Program} {l : Launch} {e : Env} {R : Room} {s : State} {m : MethodId} {args : Array Value} {below : List Frame} {meth : Method} {c : Code} {T : State} {locs : List Loc} {cells slots : Nat}
/-- a private method of a class that is no interface -/
theorem privCall (X : Stand p l e R s m args below meth c T locs cells slots) (hexec : p.tables.exec = Jvm.exec) {own : String} {index : Nat} {y : MethodName} {bytes : ByteArray} {maxL nF : Nat} {ret : Option FieldType}
    (hown : s.vm.findClass own = some m.cls) (hlink : (Cond.methodLink own index y).before args s = true) (hinst : (Cond.instanceMethod y).before args s = true) (hi : (Cond.instantiable y.cls nF).before args s = true)
    (hpriv : s.PrivateAt y) (hcode : (Cond.code y bytes maxL ret).before args s = true) (hy : y.cls ≠ "java/lang/invoke/MethodHandle" ∧ y.cls ≠ "java/lang/invoke/VarHandle")
    {W : Nat} {Pre : Free.Pt → Array Value → Prop} {Post : Free.Pt → Array Value → Option Value → Free.Pt → Prop} (hK : Free.Back l R p e below s args y 3 W Pre Post)
    {g : JFrame} (hg : g.method = m) (hsize : g.locals.size = c.maxLocals) {a : Addr} {cell : Cell} (hcell : T.heap[a]? = some cell) (hobj : ∀ q, cell.vm ≠ .statics q)
    {argsL rest : List Value} (hlen : ∀ sig, parseMethodDescriptor y.desc = some sig → argsL.length = sig.parameters.length)
    (hstack : g.stack = argsL.reverse ++ .ref a :: rest) (hW : 2 * g.monitorRoom + (rest.map fun v => v.category).sum ≤ W) (hdg : decode c.code g.pc = .ok (.invokevirtual index, 3))
    (hpre : ∀ vm₁, s.WarmedH vm₁ → Pre ⟨T.setVm vm₁, locs, cells, slots⟩ (.ref a :: argsL).toArray) :
    ∃ (v : Option Value) (vm₁ : Vm) (B : Free.Pt), s.WarmedH vm₁ ∧ Stand p l e R s m args below meth c B.U B.locs B.cells B.slots ∧ Post ⟨T.setVm vm₁, locs, cells, slots⟩ (.ref a :: argsL).toArray v B ∧
      Steps p.tables e below (T.setTop g) (B.U.setTop { g with pc := g.pc + 3, stack := v.toList ++ rest }) := by
  obtain ⟨mk, mM, hnamed, hmM, hst, hab⟩ := Cond.instanceMethod_spec hinst
  obtain ⟨mM', cM, hmM', -, -, -, -, -, -, hsig⟩ := Cond.code_spec hnamed hcode
  cases hmM.symm.trans hmM'
  obtain ⟨cc, kk, i1, i2, -, i4, -⟩ := Cond.instantiable_spec hi
  cases (findClass_of_methodNamed hnamed).symm.trans i1
  have hni : kk.isInterface = false := by
    cases q : kk.isInterface
    · rfl
    · rw [q] at i4; simp at i4
  have hsel : selectMethod e.platform s.vm cell.cls mk = .method mk := selectMethod_private hmM (hpriv mk mM hnamed hmM)
  obtain ⟨vm₁, X₁, hstep⟩ := X.invokevirtual hexec hown hlink hnamed hmM hst i2 hni hy hcell hobj hsel hmM hab i2 hni (g := g) hg (hlen _ hsig) hstack hdg
  obtain ⟨v, B, X', hpost, hs⟩ := hK m meth c ⟨T.setVm vm₁, locs, cells, slots⟩ { g with stack := rest } (.invokevirtual index) mk (.ref a :: argsL).toArray X₁ hg hsize hdg hW (X₁.named hnamed) (hpre vm₁ X₁.warmed)
  exact ⟨v, vm₁, B, X₁.warmed, X', hpost, hstep _ fun acts => by rw [doInvoke_state]; exact hs⟩
end Call
theorem cats_va (ρ : Nat → Nat) (st : List Value) : ((st.map (va ρ)).map fun v => v.category).sum = cats st := by
  simp only [cats, List.map_map]; congr 1; exact List.map_congr_left fun v _ => cat_va ρ v
/-- what a method of the class keeps, as a contract, from its walk -/
theorem met_of_CW {P : Cl} {Z : State} {a0 : Array Value} (LK : LinkC P Z a0) {n0 adr f mi : Nat} {me : Me} (hme : asc P.ms mi = some me) (hW : CW P Z n0 adr f mi me) (l : Launch) {bytes : ByteArray}
    (hdec : ∀ pc i n, fetch me.cd pc = some (i, n) → decode bytes pc = .ok (i, n) ∧ (isSw i = true ∨ n = ilen i))
    {as : List Value} (hd : ∀ v ∈ as, ∀ x, v ≠ .double x) (hlen : (layA as).length ≤ me.ml) {c : Nat} {s s' : St} {v : Option Value} {h : Heap} (hr : cexec P f mi me c 0 (lay as me.ml) [] s = some (v, s')) (hc : mi = 0 → c = 0)
    (H : HRep P Z h adr c s) (hsz : mi = 0 → h.size = adr + 1) :
    MetFree l (yOf P me) (head1 [Cond.code (yOf P me) bytes me.ml (retOf me.rt)] (cRoom P mi me)) (fun a U => a = (as.map (va (adr + ·))).toArray ∧ Z.Warmed39 U.vm ∧ U.heap = h) (fun _ _ _ _ _ => True)
      (fun _ U o U' => ∃ w L, o = .returned w ∧ QC P Z n0 adr mi c v s' h w U'.heap L ∧ FrameEnd U o U' L (cRoom P mi me).cells (cRoom P mi me).slots) := by
  refine MetFree.of_bodySF (plainFor_of_name LK.2.2.2.2.2.2.2.2.2.2.1) hisR ?_
  intro p e s₀ m args below meth cd s₁ Bd hml hP hK
  obtain ⟨rfl, hZ, hh⟩ := hP
  have e0 : s₁.heap = h := by rw [← hh, Bd.state]; rfl
  have X0 : Stand p l e (cRoom P mi me) s₀ m _ below meth cd s₁ [] 0 0 := Stand.of_body Bd
  have hown : s₀.vm.findClass P.nm = some m.cls := findClass_of_methodNamed Bd.named
  have hnm : meth.name = me.nm := (name_of_methodNamed Bd.named Bd.method).1
  have hk0 : co mi c = 0 := by simp only [co]; split; · rename_i q; exact hc q
                               · rfl
  have hz0 : zo P mi c = 0 := by
    simp only [zo]; split
    · rename_i q; rw [hc q]; simp [zs]
    · rfl
  have D := hW p l e s₀ m _ below meth cd s₁ [] h c 0 (lay as me.ml) [] s v s' _ Bd.exec hZ hown hnm Bd.returns hml Bd.notSynchronized (fun q => by rw [hh]; exact hsz q)
    (fun pc i n q => by rw [Bd.bytes]; exact hdec pc i n q) hr (by rw [hk0, hz0]; exact X0)
    ⟨by rw [e0]; exact H, Fr.nil n0, by rw [e0]; exact fun x _ => rfl, by
      rw [e0]; split
      · rename_i q; rw [hsz q, hc q]
      · rfl⟩ (lay_LR hd hlen) (lay_len hlen)
  obtain ⟨s₂, o, a1, a2, a3, w, L, a4, a5, a6⟩ := D
  exact ⟨s₂, o, a1, a2, a3, w, L, a4, a5, a6⟩
end Jvm.LM

namespace Jvm.LM
open Sem ClassFile Op Lib Jvm.Stand Jvm.Free Jvm.LawKit Jvm.RoadKit
section Steps
variable {p : Program} {l : Launch} {e : Env} {R : Room} {s₀ : State} {m : MethodId} {args : Array Value} {below : List Frame} {meth : Method} {cd : Code} {T : State} {locs : List Loc} {cells slots : Nat}
variable {P : Cl} {Z : State} {a0 : Array Value} {n0 adr c mi : Nat} {s s' : St} {h0 : Heap}
theorem gfld_val {x : Nat} {w : Value} (hg : gfld P x c s = some w) : ∃ k fe, asc P.fx x = some k ∧ asc P.fs k = some fe ∧ Fval adr c s k fe = va (adr + ·) w := by
  unfold gfld at hg
  split at hg
  · cases hg
  · rename_i k e1
    split at hg
    · cases hg
    · rename_i fe e2
      refine ⟨k, fe, e1, e2, ?_⟩
      simp only [Fval]
      split at hg
      · rename_i e3; cases hg; first | rfl | (rw [e3]; rfl)
      · rename_i e3; cases hg; first | rfl | (rw [e3]; rfl)
      · rename_i e3; cases hg; first | rfl | (rw [e3]; rfl)
      · rename_i j e3
        split at hg
        · rename_i e4; cases hg; first | (simp only [if_pos e4]; rfl) | (rw [e3]; simp only [if_pos e4]; rfl)
        · cases hg
theorem st_get (LK : LinkC P Z a0) (X : Stand p l e R s₀ m args below meth cd T locs cells slots) (hx : p.tables.exec = Jvm.exec) (hZ : Z.Warmed39 s₀.vm) (hown : s₀.vm.findClass P.nm = some m.cls) (H : HRep P Z T.heap adr c s) {x pc : Nat} {w : Value} (hg : gfld P x c s = some w)
    (hd : decode cd.code pc = .ok (.getfield x, 3)) {L : Array Slot} {r : List Value} :
    ∃ T', Stand p l e R s₀ m args below meth cd T' locs cells slots ∧ T'.heap = T.heap ∧ ∀ t, Steps p.tables e below (T'.setTop (mkF m (pc + 3) L (va (adr + ·) w :: r))) t → Steps p.tables e below (T.setTop (mkF m pc L (.ref adr :: r))) t := by
  obtain ⟨k, fe, e1, e2, e3⟩ := gfld_val (adr := adr) hg
  have F := H.2.1 k fe e2
  rw [e3] at F
  exact getF X hx hZ hown (host := "") (Or.inl (LK.2.1 _ _ e1 _ e2)) Via.refl rfl F (g := mkF m pc L (.ref adr :: r)) rfl rfl hd
theorem st_put (LK : LinkC P Z a0) (X : Stand p l e R s₀ m args below meth cd T locs cells slots) (hx : p.tables.exec = Jvm.exec) (hZ : Z.Warmed39 s₀.vm) (hown : s₀.vm.findClass P.nm = some m.cls) (hna : n0 ≤ adr) (I : Inv P Z n0 adr mi c s h0 T.heap locs) {x pc : Nat} {w : Value} {ini : Bool} (hini : ini = true → meth.name = "<init>") (hg : pfld P x ini w s = some s')
    (hd : decode cd.code pc = .ok (.putfield x, 3)) {L : Array Slot} {r : List Value} :
    ∃ T' locs', Stand p l e R s₀ m args below meth cd T' locs' cells slots ∧ Inv P Z n0 adr mi c s' h0 T'.heap locs' ∧ ∀ t, Steps p.tables e below (T'.setTop (mkF m (pc + 3) L r)) t → Steps p.tables e below (T.setTop (mkF m pc L (w :: .ref adr :: r))) t := by
  obtain ⟨H, hFr, hK, hS⟩ := I
  obtain ⟨nF, hnF⟩ := LK.1.1
  unfold pfld at hg
  split at hg
  · cases hg
  · rename_i k e1
    split at hg
    · cases hg
    · rename_i fe e2
      split at hg
      · cases hg
      · rename_i e3
        have hL : (Cond.lays P.nm P.nm fe.1 fe.2.1).before a0 Z = true ∨ ((Cond.laysFinal P.nm P.nm fe.1 fe.2.1).before a0 Z = true ∧ P.nm = P.nm ∧ meth.name = "<init>") := by
          have q := LK.2.2.1 k fe e2
          split at q
          · rename_i e4
            refine Or.inr ⟨q, rfl, hini ?_⟩
            cases ini
            · exact absurd ⟨e4, rfl⟩ e3
            · rfl
          · exact Or.inl q
        have hp := LK.2.2.2.1 k fe e2
        have fin : ∀ {T' : State} {h' : Heap} {v' : Value}, Stand p l e R s₀ m args below meth cd T' (locs ++ [⟨adr, RoadKit.slotOf Z P.nm fe.1 fe.2.1⟩]) cells slots → T'.heap = h' → Wr T.heap h' adr (RoadKit.slotOf Z P.nm fe.1 fe.2.1) v' → v' = Fval adr c s' k fe →
            (∀ a b, (a ≠ 0 ∨ b ≠ k) → gI s' a b = gI s a b ∧ gL s' a b = gL s a b) → Inv P Z n0 adr mi c s' h0 T'.heap (locs ++ [⟨adr, RoadKit.slotOf Z P.nm fe.1 fe.2.1⟩]) := fun {T' h' v'} X' e4 W e5 e6 => by
          rw [e4]
          exact ⟨H.putFld LK e2 W e5 e6, Fr.snoc X' hFr hna, hK.wr W (Nat.le_refl _) (by omega), by rw [W.size]; exact hS⟩
        split at hg
        · rename_i z e4
          cases hg
          rw [e4] at hp
          obtain ⟨T', h', X', q1, W, st⟩ := putF X hx hZ hown (host := "") (Or.inl (LK.2.1 _ _ e1 _ e2)) Via.refl rfl (H.2.1 k fe e2) H.1 hL hnF hp (narrow_I z) rfl (g := mkF m pc L (.int z :: .ref adr :: r)) rfl rfl hd
          refine ⟨T', _, X', fin X' q1 W (by simp only [Fval, e4]; simp [gI_sI]) (fun a b hab => ?_), st⟩
          rw [gI_sI, gL_sI, if_neg (by omega)]; exact ⟨rfl, rfl⟩
        · rename_i z e4
          cases hg
          rw [e4] at hp
          obtain ⟨T', h', X', q1, W, st⟩ := putFN X hx hZ hown (LK.2.1 _ _ e1 _ e2) Via.refl rfl (H.2.1 k fe e2) H.1 hL hnF (v' := .int (z &&& 1)) hp rfl (fits_nar_bool z) (g := mkF m pc L (.int z :: .ref adr :: r)) rfl rfl hd
          refine ⟨T', _, X', fin X' q1 W (by simp only [Fval, e4]; simp [gI_sI]) (fun a b hab => ?_), st⟩
          rw [gI_sI, gL_sI, if_neg (by omega)]; exact ⟨rfl, rfl⟩
        · rename_i z e4
          cases hg
          rw [e4] at hp
          obtain ⟨T', h', X', q1, W, st⟩ := putF X hx hZ hown (host := "") (Or.inl (LK.2.1 _ _ e1 _ e2)) Via.refl rfl (H.2.1 k fe e2) H.1 hL hnF hp rfl rfl (g := mkF m pc L (.long z :: .ref adr :: r)) rfl rfl hd
          refine ⟨T', _, X', fin X' q1 W (by simp only [Fval, e4]; simp [gL_sL]) (fun a b hab => ?_), st⟩
          rw [gL_sL, gI_sL, if_neg (by omega)]; exact ⟨rfl, rfl⟩
        · cases hg
theorem lda_spec {tt : Nat} {st st' : List Value} (hl : lda P tt c st s = some st') : ∃ i a r N, st = .int i :: .ref (a + 1) :: r ∧ P.al[a]? = some (tt, N) ∧ a < c ∧ inb N i ∧ st' = elv tt s (a + 1) (ix i) :: r := by
  unfold lda at hl
  split at hl
  · rename_i i a r
    split at hl
    · rename_i t2 N e1
      split at hl
      · rename_i e2
        obtain ⟨rfl, e3⟩ := e2
        split at hl
        · rename_i e4; cases hl; exact ⟨i, a, r, N, rfl, e1, e3, e4, rfl⟩
        · cases hl
      · cases hl
    · cases hl
  · cases hl
theorem va_elv (ρ : Nat → Nat) (tt : Nat) (s : St) (j i : Nat) : va ρ (elv tt s j i) = elv tt s j i := by unfold elv; split <;> rfl
theorem st_lda (X : Stand p l e R s₀ m args below meth cd T locs cells slots) (hx : p.tables.exec = Jvm.exec) (hZ : Z.Warmed39 s₀.vm) (H : HRep P Z T.heap adr c s) {tt pc : Nat} {st st' : List Value} (hl : lda P tt c st s = some st') {i : Instr}
    (hi : (tt = 0 ∧ i = .iaload) ∨ (tt = 1 ∧ i = .baload) ∨ (tt = 2 ∧ i = .laload)) (hd : decode cd.code pc = .ok (i, 1)) {L : Array Slot} :
    ∀ t, Steps p.tables e below (T.setTop (mkF m (pc + 1) L (st'.map (va (adr + ·))))) t → Steps p.tables e below (T.setTop (mkF m pc L (st.map (va (adr + ·))))) t := by
  obtain ⟨j, a, r, N, rfl, e1, e2, e3, rfl⟩ := lda_spec hl
  obtain ⟨cl, A, hN, hv⟩ := H.2.2.1 a tt N e1 e2
  have hin : ¬ (j < 0 ∨ cl.slots.size ≤ j.toNatClampNeg) := by rw [hN]; exact inb_not e3
  have hat : cl.slots[j.toNatClampNeg]? = some (elv tt s (a + 1) (ix j)) := hv (ix j) (inb_ix e3)
  intro t q
  rw [List.map_cons, va_elv] at q
  rcases hi with ⟨rfl, rfl⟩ | ⟨rfl, rfl⟩ | ⟨rfl, rfl⟩
  · exact X.iaload hx A.1 (State.isArrayOf_alike hZ.alike A.2.1) A.2.2 hin hat (g := mkF m pc L (.int j :: .ref (adr + (a + 1)) :: r.map (va (adr + ·)))) rfl rfl hd t q
  · exact X.baloadBooleans hx A.1 (State.isArrayOf_alike hZ.alike A.2.1) A.2.2 hin hat (g := mkF m pc L (.int j :: .ref (adr + (a + 1)) :: r.map (va (adr + ·)))) rfl rfl hd t q
  · exact X.laload hx A.1 (State.isArrayOf_alike hZ.alike A.2.1) A.2.2 hin hat (g := mkF m pc L (.int j :: .ref (adr + (a + 1)) :: r.map (va (adr + ·)))) rfl rfl hd t q
theorem sta_spec {tt : Nat} {st st' : List Value} (hl : sta P tt c st s = some (st', s')) : ∃ v i a N, st = v :: .int i :: .ref (a + 1) :: st' ∧ P.al[a]? = some (tt, N) ∧ a < c ∧ inb N i ∧
    ((tt = 0 ∧ ∃ z, v = .int z ∧ s' = sI s (a + 1) (ix i) z) ∨ (tt = 1 ∧ ∃ z, v = .int z ∧ s' = sI s (a + 1) (ix i) (z &&& 1)) ∨ (tt = 2 ∧ ∃ z, v = .long z ∧ s' = sL s (a + 1) (ix i) z)) := by
  unfold sta at hl
  split at hl
  · rename_i v i a r
    split at hl
    · rename_i t2 N e1
      split at hl
      · rename_i e2
        obtain ⟨rfl, e3⟩ := e2
        split at hl
        · rename_i e4
          split at hl
          · cases hl; exact ⟨_, i, a, N, rfl, e1, e3, e4, Or.inl ⟨rfl, _, rfl, rfl⟩⟩
          · cases hl; exact ⟨_, i, a, N, rfl, e1, e3, e4, Or.inr (Or.inl ⟨rfl, _, rfl, rfl⟩)⟩
          · cases hl; exact ⟨_, i, a, N, rfl, e1, e3, e4, Or.inr (Or.inr ⟨rfl, _, rfl, rfl⟩)⟩
          · cases hl
        · cases hl
      · cases hl
    · cases hl
  · cases hl
theorem st_sta (X : Stand p l e R s₀ m args below meth cd T locs cells slots) (hx : p.tables.exec = Jvm.exec) (hZ : Z.Warmed39 s₀.vm) (hna : n0 ≤ adr) (I : Inv P Z n0 adr mi c s h0 T.heap locs) {tt pc : Nat} {st st' : List Value} (hl : sta P tt c st s = some (st', s')) {i : Instr}
    (hi : (tt = 0 ∧ i = .iastore) ∨ (tt = 1 ∧ i = .bastore) ∨ (tt = 2 ∧ i = .lastore)) (hd : decode cd.code pc = .ok (i, 1)) {L : Array Slot} :
    ∃ T' locs', Stand p l e R s₀ m args below meth cd T' locs' cells slots ∧ Inv P Z n0 adr mi c s' h0 T'.heap locs' ∧ ∀ t, Steps p.tables e below (T'.setTop (mkF m (pc + 1) L (st'.map (va (adr + ·))))) t → Steps p.tables e below (T.setTop (mkF m pc L (st.map (va (adr + ·))))) t := by
  obtain ⟨H, hFr, hK, hS⟩ := I
  obtain ⟨v, j, a, N, rfl, e1, e2, e3, e4⟩ := sta_spec hl
  obtain ⟨cl, A, hN, hv⟩ := H.2.2.1 a tt N e1 e2
  have hin : ¬ (j < 0 ∨ cl.slots.size ≤ j.toNatClampNeg) := by rw [hN]; exact inb_not e3
  have hal := (List.getElem?_eq_some_iff.mp e1).1
  have fin : ∀ {T' : State} {h' : Heap} {v' : Value}, Stand p l e R s₀ m args below meth cd T' (locs ++ [⟨adr + (a + 1), j.toNatClampNeg⟩]) cells slots → T'.heap = h' → Wr T.heap h' (adr + (a + 1)) j.toNatClampNeg v' → v' = elv tt s' (a + 1) (ix j) →
      (∀ x y, (x ≠ a + 1 ∨ y ≠ ix j) → gI s' x y = gI s x y ∧ gL s' x y = gL s x y) → Inv P Z n0 adr mi c s' h0 T'.heap (locs ++ [⟨adr + (a + 1), j.toNatClampNeg⟩]) := fun {T' h' v'} X' q1 W q2 q3 => by
    rw [q1]
    exact ⟨H.putArr e1 e2 (inb_ix e3) W q2 q3, Fr.snoc X' hFr (by omega), hK.wr W (by omega) (by omega), by rw [W.size]; exact hS⟩
  rcases e4 with ⟨rfl, z, rfl, rfl⟩ | ⟨rfl, z, rfl, rfl⟩ | ⟨rfl, z, rfl, rfl⟩
  · obtain ⟨-, rfl⟩ : (0 : Nat) = 0 ∧ i = .iastore := by rcases hi with q | q | q <;> first | exact q | (have := q.1; omega)
    obtain ⟨T', h', X', q1, W, st⟩ := stI X hx hZ rfl A hin (g := mkF m pc L (.int z :: .int j :: .ref (adr + (a + 1)) :: st'.map (va (adr + ·)))) rfl rfl hd
    refine ⟨T', _, X', fin X' q1 W (by simp [elv, gI_sI, ix]) (fun x y hxy => ?_), st⟩
    rw [gI_sI, gL_sI, if_neg (fun q => hxy.elim (fun z => z q.1) (fun z => z q.2))]; exact ⟨rfl, rfl⟩
  · obtain ⟨-, rfl⟩ : (1 : Nat) = 1 ∧ i = .bastore := by rcases hi with q | q | q <;> first | exact q | (have := q.1; omega)
    obtain ⟨T', h', X', q1, W, st⟩ := stZ X hx hZ rfl A hin (g := mkF m pc L (.int z :: .int j :: .ref (adr + (a + 1)) :: st'.map (va (adr + ·)))) rfl rfl hd
    refine ⟨T', _, X', fin X' q1 W (by simp [elv, gI_sI, ix, nar]) (fun x y hxy => ?_), st⟩
    rw [gI_sI, gL_sI, if_neg (fun q => hxy.elim (fun z => z q.1) (fun z => z q.2))]; exact ⟨rfl, rfl⟩
  · obtain ⟨-, rfl⟩ : (2 : Nat) = 2 ∧ i = .lastore := by rcases hi with q | q | q <;> first | exact q | (have := q.1; omega)
    obtain ⟨T', h', X', q1, W, st⟩ := stJ X hx hZ rfl A hin (g := mkF m pc L (.long z :: .int j :: .ref (adr + (a + 1)) :: st'.map (va (adr + ·)))) rfl rfl hd
    refine ⟨T', _, X', fin X' q1 W (by simp [elv, gL_sL, ix]) (fun x y hxy => ?_), st⟩
    rw [gL_sL, gI_sL, if_neg (fun q => hxy.elim (fun z => z q.1) (fun z => z q.2))]; exact ⟨rfl, rfl⟩
theorem newF_spec {t : ArrayType} {code : Cd} {pc : Nat} {st : List Value} (h : newF P t code pc c st = true) : ∃ n x k fe tt N, st = [.int n, .ref 0] ∧ fetch code (pc + 2) = some (.putfield x, 3) ∧ asc P.fx x = some k ∧ asc P.fs k = some fe ∧ P.al[c]? = some (tt, N) ∧
    fe.2.2.1 = c + 3 ∧ t = atOf tt ∧ 0 ≤ n.toInt ∧ n.toInt = N ∧ N < 1000000 := by
  unfold newF at h
  split at h
  · rename_i n
    split at h
    · rename_i x e1
      split at h
      · rename_i k e2
        split at h
        · rename_i fe e3
          split at h
          · rename_i tt N e4
            obtain ⟨q1, q2, q3, q4, q5⟩ := of_decide_eq_true h
            exact ⟨n, x, k, fe, tt, N, rfl, e1, e2, e3, e4, q1, q2, q3, q4, q5⟩
          · cases h
        · cases h
      · cases h
    · cases h
  · cases h
theorem ty_at {tt : Nat} (h : tt ≤ 2) : newarray.typeOf (atOf tt) = tyOf tt := by
  have : tt = 0 ∨ tt = 1 ∨ tt = 2 := by omega
  rcases this with rfl | rfl | rfl <;> rfl
theorem st_new (LK : LinkC P Z a0) {me : Me} (hme : asc P.ms 0 = some me) (hnm : meth.name = me.nm) (X : Stand p l e (cRoom P 0 me) s₀ m args below meth cd T locs (co 0 c) (zo P 0 c)) (hx : p.tables.exec = Jvm.exec) (hZ : Z.Warmed39 s₀.vm) (hown : s₀.vm.findClass P.nm = some m.cls) (hna : n0 ≤ adr) (hs0 : s₀.heap.size = adr + 1) (I : Inv P Z n0 adr 0 c s h0 T.heap locs)
    (hdec : ∀ pc i n, fetch me.cd pc = some (i, n) → decode cd.code pc = .ok (i, n) ∧ (isSw i = true ∨ n = ilen i)) {t : ArrayType} {pc : Nat} {st : List Value} (h : newF P t me.cd pc c st = true) (hd : decode cd.code pc = .ok (.newarray t, 2)) {L : Array Slot} :
    ∃ T' locs', Stand p l e (cRoom P 0 me) s₀ m args below meth cd T' locs' (co 0 (c + 1)) (zo P 0 (c + 1)) ∧ Inv P Z n0 adr 0 (c + 1) s h0 T'.heap locs' ∧ ∀ t, Steps p.tables e below (T'.setTop (mkF m (pc + 5) L [])) t → Steps p.tables e below (T.setTop (mkF m pc L (st.map (va (adr + ·))))) t := by
  obtain ⟨H, hFr, hK, hS⟩ := I
  obtain ⟨nF, hnF⟩ := LK.1.1
  obtain ⟨n, x, k, fe, tt, N, rfl, e1, e2, e3, e4, e5, rfl, e6, e7, e8⟩ := newF_spec h
  obtain ⟨htt, hac⟩ := LK.2.2.2.2.2.1 _ _ _ e4
  have hal := (List.getElem?_eq_some_iff.mp e4).1
  have hS' : T.heap.size = adr + 1 + c := hS
  have hty := ty_at htt
  have hini : meth.name = "<init>" := by rw [hnm]; exact LK.2.2.2.2.2.2.2.2.2.2.2.2 me hme
  have hLy : (Cond.lays P.nm P.nm fe.1 fe.2.1).before a0 Z = true ∨ ((Cond.laysFinal P.nm P.nm fe.1 fe.2.1).before a0 Z = true ∧ P.nm = P.nm ∧ meth.name = "<init>") := by
    have q := LK.2.2.1 k fe e3
    split at q
    · exact Or.inr ⟨q, rfl, hini⟩
    · exact Or.inl q
  have hzc := zs_succ P.al e4
  have hzm := zs_le P.al (c + 1)
  obtain ⟨T1, hp1, cA, X1, q1, E, A, st1⟩ := newP X hx hZ (aty := atOf tt) (by rw [hty]; exact hac) rfl (g := mkF m pc L [.int n, .ref adr]) rfl hd rfl (by rw [Int32.lt_iff_toInt_lt]; simp only [Int32.reduceToInt]; omega) (cap := N)
    (by simp only [Int32.toNatClampNeg]; omega) (by omega) (by simp only [co, cRoom, if_true]; omega) (by simp only [zo, cRoom, if_true]; omega)
  rw [hty] at A
  have hp := LK.2.2.2.1 k fe e3
  rw [e5] at hp
  obtain ⟨d2, -⟩ := hdec _ _ _ e1
  have hsz1 : hp1.size = adr + 1 + (c + 1) := by
    have hh : T1.heap.size ≤ s₀.heap.size + (c + 1) := X1.heapSize
    have g2 : T.heap.size < Array.size hp1 := A.lt
    rw [q1, hs0] at hh
    rw [hS'] at g2
    omega
  obtain ⟨T2, hp2, X2, q2, W, st2⟩ := putF X1 hx hZ hown (host := "") (Or.inl (LK.2.1 _ _ e2 _ e3)) Via.refl q1 ((H.2.1 k fe e3).ext E) (H.1.ext E) hLy hnF (v := .ref T.heap.size) hp rfl rfl (g := mkF m (pc + 2) L [.ref T.heap.size, .ref adr]) rfl rfl d2
  refine ⟨T2, _, by simpa [co, zo, hzc] using X2, ?_, fun t q => st1 _ (st2 _ q)⟩
  rw [q2]
  refine ⟨H.newArr LK e3 e5 e4 e6 e7 hS' E A W, Fr.snoc X2 hFr hna, ?_, by rw [W.size, hsz1]; simp⟩
  exact (hK.ext E (by rw [hsz1]; omega) (by omega)).wr W (Nat.le_refl _) (by omega)
end Steps
end Jvm.LM

namespace Jvm.LM
open Sem ClassFile Op Lib Jvm.Stand Jvm.Free Jvm.LawKit Jvm.RoadKit
theorem cret_spec {me : Me} {st : List Value} {i : Instr} {v : Option Value} (h : cret me st i = some v) :
    (∃ x, i = .ireturn ∧ st = [.int x] ∧ ((me.rt = 1 ∧ v = some (.int x)) ∨ (me.rt = 2 ∧ v = some (.int (x &&& 1))))) ∨ (∃ x, i = .lreturn ∧ st = [.long x] ∧ me.rt = 3 ∧ v = some (.long x)) ∨ (i = .return_ ∧ st = [] ∧ me.rt = 0 ∧ v = none) := by
  unfold cret at h
  split at h
  · split at h
    · rename_i x
      split at h
      · rename_i e1; cases h; exact Or.inl ⟨x, rfl, rfl, Or.inl ⟨e1, rfl⟩⟩
      · split at h
        · rename_i e1; cases h; exact Or.inl ⟨x, rfl, rfl, Or.inr ⟨e1, rfl⟩⟩
        · cases h
    · cases h
  · split at h
    · rename_i x
      split at h
      · rename_i e1; cases h; exact Or.inr (Or.inl ⟨x, rfl, rfl, e1, rfl⟩)
      · cases h
    · cases h
  · split at h
    · split at h
      · rename_i e1; cases h; exact Or.inr (Or.inr ⟨rfl, rfl, e1, rfl⟩)
      · cases h
    · cases h
  · cases h
section Ret
variable {p : Program} {l : Launch} {e : Env} {R : Room} {s₀ : State} {m : MethodId} {args : Array Value} {below : List Frame} {meth : Method} {cd : Code} {T : State} {locs : List Loc} {cells slots : Nat}
theorem retI' (X : Stand p l e R s₀ m args below meth cd T locs cells slots) (hx : p.tables.exec = Jvm.exec) {pc : Nat} {Ls : Array Slot} {z : Int32} {rest : List Value} (hret : meth.sig.returnType = some .int) (hd : decode cd.code pc = .ok (.ireturn, 1)) {fs : List Frame}
    (hl : ∀ (f : JFrame) (acts : List Action), f.method = m → f.locked = none → f.entered = [] → (doReturn e (T.setTop f) acts (some (.int z))).1 = T.setFrames fs) : Steps p.tables e below (T.setTop (mkF m pc Ls (.int z :: rest))) (T.setFrames fs) :=
  retOut X hx (t := .int) (i := .ireturn) hret rfl (Or.inl ⟨rfl, Or.inl rfl, z, rfl⟩) hd hl
theorem st_ret (X : Stand p l e R s₀ m args below meth cd T locs cells slots) (hx : p.tables.exec = Jvm.exec) {me : Me} (hret : meth.sig.returnType = retOf me.rt) (hlk : meth.locks = false) {ρ : Nat → Nat} {st : List Value} {i : Instr} {v : Option Value} (h : cret me st i = some v) {pc n : Nat} (hd : decode cd.code pc = .ok (i, n)) (hn : isSw i = true ∨ n = ilen i)
    {Q : Option Value → Heap → List Loc → Prop} (hQ : Q v T.heap locs) (hc : cells ≤ R.cells) (hs : slots ≤ R.slots) {L : Array Slot} : Don p e below s₀ R Q (T.setTop (mkF m pc L (st.map (va ρ)))) := by
  rcases cret_spec h with ⟨x, rfl, rfl, h1⟩ | ⟨x, rfl, rfl, h1, rfl⟩ | ⟨rfl, rfl, h1, rfl⟩
  · obtain rfl := hn.resolve_left Bool.false_ne_true
    rcases h1 with ⟨h1, rfl⟩ | ⟨h1, rfl⟩
    · rw [h1] at hret
      obtain ⟨fs, hr, hrun, hended, hW, hsame⟩ := X.leave (v := some (.int x)) (fun q => by rw [hret] at q; cases q) hlk
      exact ⟨_, _, retI' X hx hret hd hr, hrun, hended, _, _, rfl, hQ, ⟨_, rfl⟩, hW, hsame.mono hc hs⟩
    · rw [h1] at hret
      obtain ⟨fs, hr, hrun, hended, hW, hsame⟩ := X.leave (v := some (.int (x &&& 1))) (fun q => by rw [hret] at q; cases q) hlk
      exact ⟨_, _, retN X hx (t := .boolean) hret (Or.inl rfl) hd hr, hrun, hended, _, _, rfl, hQ, ⟨_, rfl⟩, hW, hsame.mono hc hs⟩
  · obtain rfl := hn.resolve_left Bool.false_ne_true
    rw [h1] at hret
    obtain ⟨fs, hr, hrun, hended, hW, hsame⟩ := X.leave (v := some (.long x)) (fun q => by rw [hret] at q; cases q) hlk
    exact ⟨_, _, retOut X hx (t := .long) (i := .lreturn) hret rfl (Or.inr (Or.inl ⟨rfl, rfl, x, rfl⟩)) hd hr, hrun, hended, _, _, rfl, hQ, ⟨_, rfl⟩, hW, hsame.mono hc hs⟩
  · obtain rfl := hn.resolve_left Bool.false_ne_true
    rw [h1] at hret
    obtain ⟨fs, hr, hrun, hended, hW, hsame⟩ := X.leave (v := none) (fun _ => rfl) hlk
    exact ⟨_, _, X.returnOut hx hret hd hr, hrun, hended, _, _, rfl, hQ, ⟨_, rfl⟩, hW, hsame.mono hc hs⟩
end Ret
theorem cret_va {me : Me} {st : List Value} {i : Instr} {v : Option Value} (h : cret me st i = some v) (ρ : Nat → Nat) : v.toList.map (va ρ) = v.toList := by
  rcases cret_spec h with ⟨x, rfl, rfl, ⟨-, rfl⟩ | ⟨-, rfl⟩⟩ | ⟨x, rfl, rfl, -, rfl⟩ | ⟨rfl, rfl, -, rfl⟩ <;> rfl
theorem nd_rev {ρ : Nat → Nat} {as : List Value} (h : nd as = true) : ∀ v ∈ (Value.ref 0 :: as.reverse), ∀ x, v ≠ .double x := fun v hv x e => by
  rcases List.mem_cons.mp hv with q | q
  · subst q; cases e
  · exact nd_spec h v (List.mem_reverse.mp q) x e
theorem pfld_va {P : Cl} {x : Nat} {ini : Bool} {w : Value} {s s1 : St} (hg : pfld P x ini w s = some s1) (ρ : Nat → Nat) : va ρ w = w := by
  cases w <;> first | rfl | skip
  exfalso
  unfold pfld at hg
  split at hg
  · cases hg
  · split at hg
    · cases hg
    · split at hg
      · cases hg
      · split at hg
        · rename_i q; cases q
        · rename_i q; cases q
        · rename_i q; cases q
        · cases hg
theorem cwalk {P : Cl} {Z : State} {a0 : Array Value} (LK : LinkC P Z a0) {n0 adr : Nat} (hna : n0 ≤ adr) : ∀ f mi me, asc P.ms mi = some me → CW P Z n0 adr f mi me := by
  intro f
  induction f with
  | zero =>
    intro mi me hme p l e s₀ m args below meth cd T locs h0 c pc ls st s v s' L hx hZ hown hnm hret hml hlk hs0 hdec hr
    cases hr
  | succ f ih =>
    intro mi me hme p l e s₀ m args below meth cd T locs h0 c pc ls st s v s' L hx hZ hown hnm hret hml hlk hs0 hdec hr X I hL hlen
    simp only [cexec] at hr
    split at hr
    · cases hr
    · rename_i i n hf
      obtain ⟨hd, hn⟩ := hdec pc i n hf
      have ihk := ih mi me hme
      have hsize : L.size = cd.maxLocals := by rw [hL.1, hlen, hml]
      obtain ⟨nF, hnF⟩ := LK.1.1
      unfold cstep at hr
      split at hr
      -- getfield
      · obtain rfl := hn.resolve_left Bool.false_ne_true
        split at hr
        · rename_i r
          split at hr
          · rename_i w hg
            obtain ⟨T', X', q1, st⟩ := st_get LK X hx hZ hown I.1 hg hd (L := L) (r := r.map (va (adr + ·)))
            exact Don.step st (ihk p l e s₀ m args below meth cd T' locs h0 c _ ls (w :: r) s v s' L hx hZ hown hnm hret hml hlk hs0 hdec hr X' (by rw [q1]; exact I) hL hlen)
          · cases hr
        · cases hr
      -- putfield
      · obtain rfl := hn.resolve_left Bool.false_ne_true
        split at hr
        · rename_i w r
          split at hr
          · rename_i s1 hg
            have hini : (mi == 0) = true → meth.name = "<init>" := fun q => by
              have q : mi = 0 := by simpa using q
              subst q; rw [hnm]; exact LK.2.2.2.2.2.2.2.2.2.2.2.2 me hme
            have hw : va (adr + ·) w = w := pfld_va hg _
            obtain ⟨T', locs', X', I', st⟩ := st_put LK X hx hZ hown hna I hini hg hd (L := L) (r := r.map (va (adr + ·)))
            refine Don.step (fun t q => ?_) (ihk p l e s₀ m args below meth cd T' locs' h0 c _ ls r s1 v s' L hx hZ hown hnm hret hml hlk hs0 hdec hr X' I' hL hlen)
            have := st t q
            rw [List.map_cons, hw]; exact this
          · cases hr
        · cases hr
      -- loads of arrays
      · obtain rfl := hn.resolve_left Bool.false_ne_true
        split at hr
        · rename_i st' hg
          exact Don.step (st_lda X hx hZ I.1 hg (Or.inl ⟨rfl, rfl⟩) hd) (ihk p l e s₀ m args below meth cd T locs h0 c _ ls st' s v s' L hx hZ hown hnm hret hml hlk hs0 hdec hr X I hL hlen)
        · cases hr
      · obtain rfl := hn.resolve_left Bool.false_ne_true
        split at hr
        · rename_i st' hg
          exact Don.step (st_lda X hx hZ I.1 hg (Or.inr (Or.inl ⟨rfl, rfl⟩)) hd) (ihk p l e s₀ m args below meth cd T locs h0 c _ ls st' s v s' L hx hZ hown hnm hret hml hlk hs0 hdec hr X I hL hlen)
        · cases hr
      · obtain rfl := hn.resolve_left Bool.false_ne_true
        split at hr
        · rename_i st' hg
          exact Don.step (st_lda X hx hZ I.1 hg (Or.inr (Or.inr ⟨rfl, rfl⟩)) hd) (ihk p l e s₀ m args below meth cd T locs h0 c _ ls st' s v s' L hx hZ hown hnm hret hml hlk hs0 hdec hr X I hL hlen)
        · cases hr
      -- stores into arrays
      · obtain rfl := hn.resolve_left Bool.false_ne_true
        split at hr
        · rename_i st' s1 hg
          obtain ⟨T', locs', X', I', st⟩ := st_sta X hx hZ hna I hg (Or.inl ⟨rfl, rfl⟩) hd (L := L)
          exact Don.step st (ihk p l e s₀ m args below meth cd T' locs' h0 c _ ls st' s1 v s' L hx hZ hown hnm hret hml hlk hs0 hdec hr X' I' hL hlen)
        · cases hr
      · obtain rfl := hn.resolve_left Bool.false_ne_true
        split at hr
        · rename_i st' s1 hg
          obtain ⟨T', locs', X', I', st⟩ := st_sta X hx hZ hna I hg (Or.inr (Or.inl ⟨rfl, rfl⟩)) hd (L := L)
          exact Don.step st (ihk p l e s₀ m args below meth cd T' locs' h0 c _ ls st' s1 v s' L hx hZ hown hnm hret hml hlk hs0 hdec hr X' I' hL hlen)
        · cases hr
      · obtain rfl := hn.resolve_left Bool.false_ne_true
        split at hr
        · rename_i st' s1 hg
          obtain ⟨T', locs', X', I', st⟩ := st_sta X hx hZ hna I hg (Or.inr (Or.inr ⟨rfl, rfl⟩)) hd (L := L)
          exact Don.step st (ihk p l e s₀ m args below meth cd T' locs' h0 c _ ls st' s1 v s' L hx hZ hown hnm hret hml hlk hs0 hdec hr X' I' hL hlen)
        · cases hr
      -- newarray and putfield
      · obtain rfl := hn.resolve_left Bool.false_ne_true
        split at hr
        · rename_i hg
          obtain ⟨rfl, hg⟩ := hg
          obtain ⟨T', locs', X', I', st⟩ := st_new LK hme hnm X hx hZ hown hna (hs0 rfl) I hdec hg hd (L := L)
          exact Don.step st (ihk p l e s₀ m args below meth cd T' locs' h0 (c + 1) _ ls [] s v s' L hx hZ hown hnm hret hml hlk hs0 hdec hr X' I' hL hlen)
        · cases hr
      -- constants
      · obtain rfl := hn.resolve_left Bool.false_ne_true
        split at hr
        · rename_i z hg
          exact Don.step (fun t q => X.ldcI hx hown (mv hZ (LK.2.2.2.2.2.2.1 _ _ hg)) (g := mkF m pc L (st.map (va (adr + ·)))) rfl hd q) (ihk p l e s₀ m args below meth cd T locs h0 c _ ls (.int z :: st) s v s' L hx hZ hown hnm hret hml hlk hs0 hdec hr X I hL hlen)
        · cases hr
      · obtain rfl := hn.resolve_left Bool.false_ne_true
        split at hr
        · rename_i z hg
          exact Don.step (fun t q => X.ldc2J hx hown (mv hZ (LK.2.2.2.2.2.2.1 _ _ hg)) (g := mkF m pc L (st.map (va (adr + ·)))) rfl hd q) (ihk p l e s₀ m args below meth cd T locs h0 c _ ls (.long z :: st) s v s' L hx hZ hown hnm hret hml hlk hs0 hdec hr X I hL hlen)
        · cases hr
      -- Object's constructor
      · obtain rfl := hn.resolve_left Bool.false_ne_true
        split at hr
        · rename_i r
          split at hr
          · rename_i hg
            obtain ⟨rfl, hg1, hg2⟩ := hg
            obtain ⟨w1, w2, w3⟩ := LK.2.2.2.2.2.2.2.1
            obtain ⟨T', X', q1, st⟩ := initO X hx hZ hown w1 w2 w3 rfl (g := mkF m pc L (.ref adr :: r.map (va (adr + ·)))) rfl hsize rfl hd hg1 (W := cats r) (by show 2 * 0 + _ ≤ _; rw [cats_va]; omega) hg2
            exact Don.step st (ihk p l e s₀ m args below meth cd T' locs h0 c _ ls r s v s' L hx hZ hown hnm hret hml hlk hs0 hdec hr X' (by rw [q1]; exact I) hL hlen)
          · cases hr
        · cases hr
      -- a call
      · obtain rfl := hn.resolve_left Bool.false_ne_true
        split at hr
        · cases hr
        · rename_i m' hm'
          split at hr
          · cases hr
          · rename_i me' hme'
            split at hr
            · rename_i r hst
              split at hr
              · rename_i hg
                obtain ⟨hg0, hg1, hg2, hg3⟩ := hg
                dsimp only at hr
                rw [hme'] at hr
                dsimp only at hr
                obtain ⟨bytes, ps, hcode, hdec', hpar, hpl⟩ := LK.2.2.2.2.2.2.2.2.1 m' me' hme'
                obtain ⟨w1, w2, w3⟩ := LK.2.2.2.2.2.2.2.2.2.1 _ _ hm' _ hme'
                by_cases hla : (layA (Value.ref 0 :: (st.take me'.na).reverse)).length ≤ me'.ml
                · rw [if_pos hla] at hr
                  cases hcl : cexec P f m' me' c 0 (lay (.ref 0 :: (st.take me'.na).reverse) me'.ml) [] s with
                  | none => rw [hcl] at hr; cases hr
                  | some vs =>
                    obtain ⟨w, s1⟩ := vs
                    rw [hcl] at hr
                    have hr' : cexec P f mi me c (pc + 3) ls (w.toList ++ r) s1 = some (v, s') := by cases w <;> exact hr
                    have hM := met_of_CW LK hme' (ih m' me' hme') l hdec' (as := .ref 0 :: (st.take me'.na).reverse) (nd_rev (ρ := id) hg3) hla hcl (fun q => absurd q hg0) I.1 (fun q => absurd q hg0)
                    have hB := backOf (R := cRoom P mi me) (p := p) (e := e) (below := below) (s := s₀) (args := args) (len := 3) (W := cats r) hM hZ hcode LK.1.2 hg1 hg2
                    have hdl : me'.na < st.length := by
                      have := congrArg List.length hst
                      simp at this; omega
                    have hsp : st = st.take me'.na ++ .ref 0 :: r := by rw [← hst, List.take_append_drop]
                    have hcell := I.1.1.cell
                    obtain ⟨cel, hc1, hc2⟩ := hcell
                    have key : ∃ (v' : Option Value) (U : State) (Lc : List Loc), Stand p l e (cRoom P mi me) s₀ m args below meth cd U (locs ++ Lc) (co mi c) (zo P mi c) ∧ QC P Z n0 adr m' c w s1 T.heap v' U.heap Lc ∧
                        Steps p.tables e below (T.setTop (mkF m pc L (st.map (va (adr + ·))))) (U.setTop (mkF m (pc + 3) L (v'.toList ++ r.map (va (adr + ·))))) := by
                      have hsm : st.map (va (adr + ·)) = ((st.take me'.na).reverse.map (va (adr + ·))).reverse ++ .ref adr :: r.map (va (adr + ·)) := by
                        conv => lhs; rw [hsp]
                        simp [va]
                      have hll : ∀ sig, parseMethodDescriptor (yOf P me').desc = some sig → ((st.take me'.na).reverse.map (va (adr + ·))).length = sig.parameters.length := lenOf hpar (by simp [hpl]; omega)
                      have hpre : ∀ vm₁, s₀.WarmedH vm₁ → ((Value.ref adr :: (st.take me'.na).reverse.map (va (adr + ·))).toArray = ((Value.ref 0 :: (st.take me'.na).reverse).map (va (adr + ·))).toArray ∧ (T.setVm vm₁).heap = T.heap ∧ co mi c + (cRoom P m' me').cells ≤ (cRoom P mi me).cells ∧ zo P mi c + (cRoom P m' me').slots ≤ (cRoom P mi me).slots) := fun vm₁ _ => by
                        refine ⟨by simp [va], rfl, ?_, ?_⟩
                        · simp only [co, cRoom, if_neg hg0]
                          have := I.1.2.2.2.2
                          split <;> omega
                        · simp only [zo, cRoom, if_neg hg0]
                          have := zs_le P.al c
                          split <;> omega
                      have hz1 : (cRoom P m' me').cells = 0 := by simp [cRoom, hg0]
                      have hz2 : (cRoom P m' me').slots = 0 := by simp [cRoom, hg0]
                      rcases w3 with w3 | ⟨w3, w4⟩
                      · obtain ⟨v', vm₁, ⟨U, lo, ce, sl⟩, -, X', ⟨Lc, hQ, l1, l2, l3⟩, stp⟩ := privCall X hx (y := yOf P me') hown (mv hZ w1) (mv hZ w2) (nF := nF) (mv hZ hnF) (Cond.privateMethod_at (mvP hZ w3 (args := args))) (mv hZ hcode) LK.2.2.2.2.2.2.2.2.2.2.2.1 hB (g := mkF m pc L (st.map (va (adr + ·)))) rfl hsize hc1 hc2 hll hsm (by show 2 * 0 + _ ≤ _; rw [cats_va]; omega) hd hpre
                        dsimp only [Pt.U, Pt.locs, Pt.cells, Pt.slots] at X' hQ l1 l2 l3 stp
                        subst l1 l2 l3
                        rw [hz1, hz2] at X'
                        exact ⟨v', U, Lc, X', hQ, stp⟩
                      · obtain ⟨cq, kq, qa, qb, qc⟩ := isOf hZ rfl I.1.1
                        obtain ⟨v', vm₁, ⟨U, lo, ce, sl⟩, -, X', ⟨Lc, hQ, l1, l2, l3⟩, stp⟩ := X.virtualBack hx (y := yOf P me') (z := yOf P me') hown (mv hZ w1) (mv hZ w3) (notFace_of_selects (args := #[]) (mv hZ w4)) (mv hZ w4) (mv hZ w2) LK.2.2.2.2.2.2.2.2.2.2.2.1 hB qa qc (g := mkF m pc L (st.map (va (adr + ·)))) rfl hsize (Steps.refl _) hll hsm (by show 2 * 0 + _ ≤ _; rw [cats_va]; omega) hd hpre
                        dsimp only [Pt.U, Pt.locs, Pt.cells, Pt.slots] at X' hQ l1 l2 l3 stp
                        subst l1 l2 l3
                        rw [hz1, hz2] at X'
                        exact ⟨v', U, Lc, X', hQ, stp⟩
                    obtain ⟨v', U, Lc, X', ⟨⟨rfl, hva⟩, hF', hH', hK', hS'⟩, stp⟩ := key
                    rw [if_neg hg0] at hH' hS'
                    refine Don.step (fun t q => stp.trans ?_) (ihk p l e s₀ m args below meth cd U (locs ++ Lc) h0 c _ ls (v'.toList ++ r) s1 v s' L hx hZ hown hnm hret hml hlk hs0 hdec hr' X' ⟨hH', I.2.1.app hF', I.2.2.1.trans hK', by rw [hS']; exact I.2.2.2⟩ hL hlen)
                    rw [List.map_append, hva] at q; exact q
                · rw [if_neg hla] at hr; cases hr
              · cases hr
            · cases hr
      -- the rest
      · split at hr
        · split at hr
          · cases hr
          · rename_i h1 hcf
            split at hr
            · rename_i w hw
              cases hr
              have hcf' : mi = 0 → c = P.al.length := fun q => Classical.byContradiction fun z => hcf ⟨q, z⟩
              have hA : HRep P Z T.heap adr (if mi = 0 then P.al.length else c) s := by
                by_cases q : mi = 0
                · rw [if_pos q, ← hcf' q]; exact I.1
                · rw [if_neg q]; exact I.1
              have hB : Array.size T.heap = if mi = 0 then adr + 1 + P.al.length else Array.size h0 := by
                rw [I.2.2.2]
                by_cases q : mi = 0
                · rw [if_pos q, if_pos q, ← hcf' q]
                · rw [if_neg q, if_neg q]
              have hC : co mi c ≤ (cRoom P mi me).cells := by
                simp only [co, cRoom]
                by_cases q : mi = 0
                · rw [if_pos q, if_pos q, ← hcf' q]; exact Nat.le_refl _
                · rw [if_neg q, if_neg q]; exact Nat.le_refl _
              have hD : zo P mi c ≤ (cRoom P mi me).slots := by
                simp only [zo, cRoom]
                by_cases q : mi = 0
                · rw [if_pos q, if_pos q]; exact zs_le _ _
                · rw [if_neg q, if_neg q]; exact Nat.le_refl _
              exact st_ret X hx hret hlk hw hd hn ⟨⟨rfl, cret_va hw⟩, I.2.1, hA, I.2.2.1, hB⟩ hC hD
            · cases hr
        · split at hr
          · rename_i pc' ls' st' hp
            obtain ⟨L', hL', hLs, st⟩ := pstep_sound X hx hp hd hn hL
            have hlen' : ls'.length = me.ml := by rw [← hL'.1, hLs, hL.1]; exact hlen
            exact Don.step st (ihk p l e s₀ m args below meth cd T locs h0 c _ ls' st' s v s' L' hx hZ hown hnm hret hml hlk hs0 hdec hr X I hL' hlen')
          · cases hr
end Jvm.LM

namespace Jvm.LM
open Sem ClassFile Op Lib Jvm.Stand Jvm.Free Jvm.LawKit Jvm.RoadKit
/-! the law's machine: several objects of the class, and one array of ints that it only reads -/
/-- class name, pool to own static method, pool to the class's method, pool index of the constructor, of the class, number of its fields, constants, methods, room: cells, slots -/
abbrev Lw := String × List (Nat × Nat) × List (Nat × Nat) × Nat × Nat × Nat × List (Nat × Value) × List (Nat × Me) × Nat × Nat
def Lw.nm (Q : Lw) : String := Q.1
def Lw.sx (Q : Lw) : List (Nat × Nat) := Q.2.1
def Lw.vx (Q : Lw) : List (Nat × Nat) := Q.2.2.1
def Lw.ci (Q : Lw) : Nat := Q.2.2.2.1
def Lw.cx (Q : Lw) : Nat := Q.2.2.2.2.1
def Lw.nf (Q : Lw) : Nat := Q.2.2.2.2.2.1
def Lw.kx (Q : Lw) : List (Nat × Value) := Q.2.2.2.2.2.2.1
def Lw.ms (Q : Lw) : List (Nat × Me) := Q.2.2.2.2.2.2.2.1
def Lw.rc (Q : Lw) : Nat := Q.2.2.2.2.2.2.2.2.1
def Lw.rs (Q : Lw) : Nat := Q.2.2.2.2.2.2.2.2.2
/-- the objects, how many are made, whether one more is being made -/
abbrev Wd := (Nat → St) × Nat × Bool
abbrev Sc := Option (Nat × (Nat → Int32))
abbrev Rw := Option (Option Value × Wd)
def nr : List Value → Bool
  | [] => true
  | .int _ :: r => nr r
  | .long _ :: r => nr r
  | _ => false
theorem nr_map {l : List Value} (h : nr l = true) (ρ : Nat → Nat) : l.map (va ρ) = l := by
  induction l with
  | nil => rfl
  | cons v r ih => cases v <;> first | (simp only [nr] at h; simp [va, ih h]; done) | (simp [nr] at h)
theorem nr_nd {l : List Value} (h : nr l = true) : nd l = true := by
  induction l with
  | nil => rfl
  | cons v r ih => cases v <;> first | (simp only [nr] at h; simp [nd, ih h]; done) | (simp [nr] at h)
def uo (w : Nat → St) (o : Nat) (s : St) : Nat → St := fun i => if i = o then s else w i
def lstep {α : Type} (P : Cl) (Q : Lw) (sc : Sc) (mi : Nat) (me : Me) (rt : Option Value → Wd → Option α) (cc : Nat → Nat → List Value → St → Rs) (cl : Nat → List Value → Wd → Rw) (k : Nat → Lv → List Value → Wd → Option α) (i : Instr) (pc : Nat) (ls : Lv) (st : List Value) (w : Wd) : Option α :=
  match i with
  | .iaload => match sc, st with
    | some (n, g), .int j :: .ref 0 :: r => if inb n j then k (pc + 1) ls (.int (g (ix j)) :: r) w else none
    | _, _ => none
  | .arraylength => match sc, st with
    | some (n, _), .ref 0 :: r => k (pc + 1) ls (.int (Int32.ofNat n) :: r) w
    | _, _ => none
  | .ldc x => match asc Q.kx x with | some (.int z) => k (pc + 2) ls (.int z :: st) w | _ => none
  | .ldc2_w x => match asc Q.kx x with | some (.long z) => k (pc + 3) ls (.long z :: st) w | _ => none
  | .new x => if mi = 0 ∧ x = Q.cx ∧ w.2.2 = false ∧ (w.2.1 + 1) * (P.al.length + 1) ≤ Q.rc ∧ (w.2.1 + 1) * (Q.nf + zs P.al P.al.length) ≤ Q.rs then
      k (pc + 3) ls (.ref (w.2.1 + 1) :: st) (uo w.1 w.2.1 s0, w.2.1, true) else none
  | .invokespecial x => match asc P.ms 0 with
    | none => none
    | some me' => match st.drop me'.na with
      | .ref (o + 1) :: r => if x = Q.ci ∧ mi = 0 ∧ o = w.2.1 ∧ w.2.2 = true ∧ me'.rf + 1 ≤ me.rf ∧ cats r + (me'.ml + 11) + me'.rl ≤ me.rl ∧ nr (st.take me'.na) = true ∧ (w.2.1 + 1) * (P.al.length + 1) ≤ Q.rc ∧ (w.2.1 + 1) * (Q.nf + zs P.al P.al.length) ≤ Q.rs then
          (match cc 0 0 (.ref 0 :: (st.take me'.na).reverse) (w.1 o) with
           | some (none, s') => k (pc + 3) ls r (uo w.1 o s', w.2.1 + 1, false)
           | _ => none) else none
      | _ => none
  | .invokevirtual x => match asc Q.vx x with
    | none => none
    | some m' => match asc P.ms m' with
      | none => none
      | some me' => match st.drop me'.na with
        | .ref (o + 1) :: r => if m' ≠ 0 ∧ o < w.2.1 ∧ me'.rf + 1 ≤ me.rf ∧ cats r + (me'.ml + 11) + me'.rl ≤ me.rl ∧ nr (st.take me'.na) = true then
            (match cc m' P.al.length (.ref 0 :: (st.take me'.na).reverse) (w.1 o) with
             | some (none, s') => k (pc + 3) ls r (uo w.1 o s', w.2.1, w.2.2)
             | some (some v, s') => k (pc + 3) ls (v :: r) (uo w.1 o s', w.2.1, w.2.2)
             | none => none) else none
        | _ => none
  | .invokestatic x => match asc Q.sx x with
    | none => none
    | some m' => match asc Q.ms m' with
      | none => none
      | some me' => if m' ≠ 0 ∧ me'.na ≤ st.length ∧ me'.rf + 1 ≤ me.rf ∧ cats (st.drop me'.na) + (me'.ml + 11) + me'.rl ≤ me.rl ∧ nd (st.take me'.na) = true then
          (match cl m' (st.take me'.na).reverse w with
           | some (none, w') => k (pc + 3) ls (st.drop me'.na) w'
           | some (some v, w') => k (pc + 3) ls (v :: st.drop me'.na) w'
           | none => none) else none
  | i => if isRet i = true then (match cret me st i with | some v => rt v w | none => none)
    else match pstep i pc ls st with | some (pc', ls', st') => k pc' ls' st' w | none => none
def lexec (P : Cl) (Q : Lw) (sc : Sc) : Nat → Nat → Me → Nat → Lv → List Value → Wd → Rw
  | 0, _, _, _, _, _, _ => none
  | f + 1, mi, me, pc, ls, st, w => match fetch me.cd pc with
    | none => none
    | some (i, _) => lstep P Q sc mi me (fun v w => some (v, w)) (ccall P f) (fun m' as w => match asc Q.ms m' with | some me' => (if (layA as).length ≤ me'.ml then lexec P Q sc f m' me' 0 (lay as me'.ml) [] w else none) | none => none) (lexec P Q sc f mi me) i pc ls st w
theorem lexec_cnt {P : Cl} {Q : Lw} {sc : Sc} : ∀ f mi me pc ls st w v w', mi ≠ 0 → lexec P Q sc f mi me pc ls st w = some (v, w') → w'.2 = w.2 := by
  intro f
  induction f with
  | zero => intro mi me pc ls st w v w' _ h; cases h
  | succ f ih =>
    intro mi me pc ls st w v w' h0 h
    simp only [lexec] at h
    split at h
    · cases h
    · unfold lstep at h
      split at h
      · split at h
        · split at h
          · exact ih _ _ _ _ _ _ _ _ h0 h
          · cases h
        · cases h
      · split at h
        · exact ih _ _ _ _ _ _ _ _ h0 h
        · cases h
      · split at h
        · exact ih _ _ _ _ _ _ _ _ h0 h
        · cases h
      · split at h
        · exact ih _ _ _ _ _ _ _ _ h0 h
        · cases h
      · split at h
        · rename_i q; exact absurd q.1 h0
        · cases h
      · split at h
        · cases h
        · split at h
          · split at h
            · rename_i q; exact absurd q.2.1 h0
            · cases h
          · cases h
      · split at h
        · cases h
        · split at h
          · cases h
          · split at h
            · split at h
              · split at h
                · exact (ih _ _ _ _ _ _ _ _ h0 h).trans rfl
                · exact (ih _ _ _ _ _ _ _ _ h0 h).trans rfl
                · cases h
              · cases h
            · cases h
      · split at h
        · cases h
        · split at h
          · cases h
          · rename_i me' hme'
            split at h
            · rename_i hg
              dsimp only at h
              rw [hme'] at h
              dsimp only at h
              split at h
              · rename_i w2 hc
                split at hc
                · exact (ih _ _ _ _ _ _ _ _ h0 h).trans (ih _ _ _ _ _ _ _ _ hg.1 hc)
                · cases hc
              · rename_i u w2 hc
                split at hc
                · exact (ih _ _ _ _ _ _ _ _ h0 h).trans (ih _ _ _ _ _ _ _ _ hg.1 hc)
                · cases hc
              · cases h
            · cases h
      · split at h
        · split at h
          · cases h; rfl
          · cases h
        · split at h
          · exact ih _ _ _ _ _ _ _ _ h0 h
          · cases h
def lcall (P : Cl) (Q : Lw) (sc : Sc) (f m' : Nat) (as : List Value) (w : Wd) : Rw := match asc Q.ms m' with | some me' => (if (layA as).length ≤ me'.ml then lexec P Q sc f m' me' 0 (lay as me'.ml) [] w else none) | none => none
def zOf (Q : Lw) (me : Me) : MethodName := ⟨Q.nm, me.nm, me.ds⟩
def LinkL (P : Cl) (Q : Lw) (Z : State) (a0 : Array Value) : Prop :=
  ((Cond.classLink Q.nm Q.cx P.nm).before a0 Z = true ∧ (Cond.instantiable P.nm Q.nf).before a0 Z = true) ∧
  (∀ me, asc P.ms 0 = some me → (Cond.methodLink Q.nm Q.ci (yOf P me)).before a0 Z = true ∧ (Cond.instanceMethod (yOf P me)).before a0 Z = true ∧ me.rt = 0) ∧
  (∀ x m', asc Q.vx x = some m' → ∀ me, asc P.ms m' = some me → (Cond.methodLink Q.nm x (yOf P me)).before a0 Z = true ∧ (Cond.declares (yOf P me)).before a0 Z = true ∧ (Cond.instanceMethod (yOf P me)).before a0 Z = true ∧ (Cond.selects P.nm (yOf P me) (yOf P me)).before a0 Z = true) ∧
  (∀ x m', asc Q.sx x = some m' → ∀ me, asc Q.ms m' = some me → (Cond.methodLink Q.nm x (zOf Q me)).before a0 Z = true ∧ (Cond.static (zOf Q me)).before a0 Z = true ∧ (Cond.initialized Q.nm).before a0 Z = true) ∧
  (∀ x v, asc Q.kx x = some v → match v with
    | .int z => (Cond.constant Q.nm x z).before a0 Z = true
    | .long z => (Cond.constantLong Q.nm x z).before a0 Z = true
    | _ => True) ∧
  (∀ mi me, asc Q.ms mi = some me → mi ≠ 0 → ∃ (bytes : ByteArray) (ps : List FieldType), (Cond.code (zOf Q me) bytes me.ml (retOf me.rt)).before a0 Z = true ∧
    (∀ pc i n, fetch me.cd pc = some (i, n) → decode bytes pc = .ok (i, n) ∧ (isSw i = true ∨ n = ilen i)) ∧ parseMethodDescriptor me.ds = some ⟨ps, retOf me.rt⟩ ∧ ps.length = me.na) ∧
  plainName Q.nm = true ∧ (Q.nm ≠ "java/lang/invoke/MethodHandle" ∧ Q.nm ≠ "java/lang/invoke/VarHandle")
def rho (a n0 K : Nat) : Nat → Nat
  | 0 => a
  | o + 1 => n0 + o * K
def SRep (Z : State) (h : Heap) (a n0 : Nat) (sc : Sc) : Prop :=
  match sc with
  | none => True
  | some (n, g) => a < n0 ∧ ∃ cl : Cell, Arr Z h a cl .int ∧ cl.slots.size = n ∧ ∀ i, i < n → cl.slots[i]? = some (.int (g i))
def LRep (P : Cl) (Z : State) (h : Heap) (a n0 : Nat) (sc : Sc) (w : Wd) : Prop :=
  SRep Z h a n0 sc ∧ (∀ o, o < w.2.1 → HRep P Z h (n0 + o * (P.al.length + 1)) P.al.length (w.1 o)) ∧
  (w.2.2 = true → HRep P Z h (n0 + w.2.1 * (P.al.length + 1)) 0 (w.1 w.2.1)) ∧ h.size = n0 + w.2.1 * (P.al.length + 1) + (if w.2.2 = true then 1 else 0)
def lRoom (Q : Lw) (mi : Nat) (me : Me) : Room := { frames := me.rf, cells := if mi = 0 then Q.rc else 0, slots := if mi = 0 then Q.rs else 0, locals := me.rl }
def QL (P : Cl) (Z : State) (a n0 : Nat) (sc : Sc) (v : Option Value) (w' : Wd) (u : Option Value) (h : Heap) (L : List Loc) : Prop :=
  (u = v ∧ ∀ ρ, u.toList.map (va ρ) = u.toList) ∧ Fr n0 L ∧ LRep P Z h a n0 sc w'
def lco (P : Cl) (mi : Nat) (w : Wd) : Nat := if mi = 0 then w.2.1 * (P.al.length + 1) + (if w.2.2 = true then 1 else 0) else 0
def lzo (P : Cl) (Q : Lw) (mi : Nat) (w : Wd) : Nat := if mi = 0 then w.2.1 * (Q.nf + zs P.al P.al.length) + (if w.2.2 = true then Q.nf else 0) else 0
def LW (P : Cl) (Q : Lw) (sc : Sc) (Z : State) (a n0 f mi : Nat) (me : Me) : Prop :=
  ∀ (p : Program) (l : Launch) (e : Env) (s₀ : State) (m : MethodId) (args : Array Value) (below : List Frame) (meth : Method) (cd : Code) (T : State) (locs : List Loc) (pc : Nat) (ls : Lv) (st : List Value) (w : Wd) (v : Option Value) (w' : Wd) (L : Array Slot),
    p.tables.exec = Jvm.exec → Z.Warmed39 s₀.vm → s₀.vm.findClass Q.nm = some m.cls → meth.sig.returnType = retOf me.rt → cd.maxLocals = me.ml → meth.locks = false → (mi = 0 → s₀.heap.size = n0) →
    (∀ pc i n, fetch me.cd pc = some (i, n) → decode cd.code pc = .ok (i, n) ∧ (isSw i = true ∨ n = ilen i)) →
    lexec P Q sc f mi me pc ls st w = some (v, w') →
    Stand p l e (lRoom Q mi me) s₀ m args below meth cd T locs (lco P mi w) (lzo P Q mi w) → w.2.1 * (P.al.length + 1) + (if w.2.2 = true then 1 else 0) ≤ (lRoom Q 0 me).cells → w.2.1 * (Q.nf + zs P.al P.al.length) + (if w.2.2 = true then Q.nf else 0) ≤ (lRoom Q 0 me).slots →
    LRep P Z T.heap a n0 sc w → Fr n0 locs → LR (rho a n0 (P.al.length + 1)) ls L → ls.length = me.ml →
    Don p e below s₀ (lRoom Q mi me) (QL P Z a n0 sc v w') (T.setTop (mkF m pc L (st.map (va (rho a n0 (P.al.length + 1))))))
theorem met_of_LW {P : Cl} {Q : Lw} {sc : Sc} {Z : State} {a0 : Array Value} (LL : LinkL P Q Z a0) {a n0 f mi : Nat} {me : Me} (hW : LW P Q sc Z a n0 f mi me) (hmi : mi ≠ 0) (l : Launch) {bytes : ByteArray}
    (hdec : ∀ pc i n, fetch me.cd pc = some (i, n) → decode bytes pc = .ok (i, n) ∧ (isSw i = true ∨ n = ilen i))
    {as : List Value} (hd : ∀ v ∈ as, ∀ x, v ≠ .double x) (hlen : (layA as).length ≤ me.ml) {w w' : Wd} {v : Option Value} {h : Heap} (hr : lexec P Q sc f mi me 0 (lay as me.ml) [] w = some (v, w'))
    (hc1 : w.2.1 * (P.al.length + 1) + (if w.2.2 = true then 1 else 0) ≤ Q.rc) (hc2 : w.2.1 * (Q.nf + zs P.al P.al.length) + (if w.2.2 = true then Q.nf else 0) ≤ Q.rs)
    (H : LRep P Z h a n0 sc w) :
    MetFree l (zOf Q me) (head1 [Cond.code (zOf Q me) bytes me.ml (retOf me.rt)] (lRoom Q mi me)) (fun b U => b = (as.map (va (rho a n0 (P.al.length + 1)))).toArray ∧ Z.Warmed39 U.vm ∧ U.heap = h) (fun _ _ _ _ _ => True)
      (fun _ U o U' => ∃ u L, o = .returned u ∧ QL P Z a n0 sc v w' u U'.heap L ∧ FrameEnd U o U' L (lRoom Q mi me).cells (lRoom Q mi me).slots) := by
  refine MetFree.of_bodySF (plainFor_of_name LL.2.2.2.2.2.2.1) hisR ?_
  intro p e s₀ m args below meth cd s₁ Bd hml hP hK
  obtain ⟨rfl, hZ, hh⟩ := hP
  have e0 : s₁.heap = h := by rw [← hh, Bd.state]; rfl
  have X0 : Stand p l e (lRoom Q mi me) s₀ m _ below meth cd s₁ [] 0 0 := Stand.of_body Bd
  have hown : s₀.vm.findClass Q.nm = some m.cls := findClass_of_methodNamed Bd.named
  have hk0 : lco P mi w = 0 := by simp [lco, hmi]
  have hz0 : lzo P Q mi w = 0 := by simp [lzo, hmi]
  have D := hW p l e s₀ m _ below meth cd s₁ [] 0 (lay as me.ml) [] w v w' _ Bd.exec hZ hown Bd.returns hml Bd.notSynchronized (fun q => absurd q hmi)
    (fun pc i n q => by rw [Bd.bytes]; exact hdec pc i n q) hr (by rw [hk0, hz0]; exact X0) (by simpa [lRoom] using hc1) (by simpa [lRoom] using hc2) (by rw [e0]; exact H) (Fr.nil n0) (lay_LR hd hlen) (lay_len hlen)
  obtain ⟨s₂, o, a1, a2, a3, u, L, a4, a5, a6⟩ := D
  exact ⟨s₂, o, a1, a2, a3, u, L, a4, a5, a6⟩
end Jvm.LM

namespace Jvm.LM
open Sem ClassFile Op Lib Jvm.Stand Jvm.Free Jvm.LawKit Jvm.RoadKit
theorem rng {a b K : Nat} (h : a < b) : a * K + K ≤ b * K := by
  have := Nat.mul_le_mul_right K (show a + 1 ≤ b from h)
  rw [Nat.succ_mul] at this; exact this
theorem SRep.congr {Z : State} {h h' : Heap} {a n0 : Nat} {sc : Sc} (H : SRep Z h a n0 sc) (e : ∀ x, x < n0 → h'[x]? = h[x]?) : SRep Z h' a n0 sc := by
  unfold SRep at H ⊢
  split
  · trivial
  · obtain ⟨h1, cl, ⟨q1, q2⟩, q3⟩ := H
    exact ⟨h1, cl, ⟨by rw [e a h1]; exact q1, q2⟩, q3⟩
/-- one object has moved, the others stand -/
theorem LRep.call {P : Cl} {Z : State} {h h' : Heap} {a n0 o : Nat} {sc : Sc} {w : Wd} {s' : St} (H : LRep P Z h a n0 sc w) (ho : o < w.2.1) (K : Kp h h' (n0 + o * (P.al.length + 1)) P.al.length) (hs : h'.size = h.size) (H' : HRep P Z h' (n0 + o * (P.al.length + 1)) P.al.length s') :
    LRep P Z h' a n0 sc (uo w.1 o s', w.2.1, w.2.2) := by
  obtain ⟨h1, h2, h3, h4⟩ := H
  refine ⟨h1.congr fun x hx => K x (Or.inl (by omega)), fun o' ho' => ?_, fun q => ?_, by rw [hs]; exact h4⟩
  · by_cases e : o' = o
    · subst e; simpa [uo] using H'
    · have := (h2 o' ho').congr (h' := h') fun x hx1 hx2 => K x (by
        rcases Nat.lt_or_gt_of_ne e with q | q
        · have := rng (K := P.al.length + 1) q; omega
        · have := rng (K := P.al.length + 1) q; omega)
      simpa [uo, e] using this
  · have e : w.2.1 ≠ o := by omega
    have := (h3 q).congr (h' := h') fun x hx1 hx2 => K x (by have := rng (K := P.al.length + 1) ho; omega)
    simpa [uo, e] using this
theorem ar1 {x k r y : Nat} (e : y = x + (k + 1)) (h : y ≤ r) : x + 1 + k ≤ r := by omega
theorem ar3 {x k y : Nat} (h : y = x + (k + 1)) : y + 0 = x + 1 + k := by omega
theorem ar4 {x f z y : Nat} (h : y = x + (f + z)) : y + 0 = x + f + z := by omega
theorem ar5 {x f z r y : Nat} (e : y = x + (f + z)) (h : y ≤ r) : x + f + z ≤ r := by omega
theorem ar6 {n x k y : Nat} (h : y = x + (k + 1)) : n + x + 1 + k = n + y + 0 := by omega
theorem lwalk {P : Cl} {Q : Lw} {sc : Sc} {Z : State} {a0 : Array Value} (LK : LinkC P Z a0) (LL : LinkL P Q Z a0) {a n0 : Nat} : ∀ f mi me, asc Q.ms mi = some me → LW P Q sc Z a n0 f mi me := by
  intro f
  induction f with
  | zero =>
    intro mi me hme p l e s₀ m args below meth cd T locs pc ls st w v w' L hx hZ hown hret hml hlk hs0 hdec hr
    cases hr
  | succ f ih =>
    intro mi me hme p l e s₀ m args below meth cd T locs pc ls st w v w' L hx hZ hown hret hml hlk hs0 hdec hr X hc1 hc2 I hFr hL hlen
    simp only [lexec] at hr
    split at hr
    · cases hr
    · rename_i i n hf
      obtain ⟨hd, hn⟩ := hdec pc i n hf
      have ihk := ih mi me hme
      have hsize : L.size = cd.maxLocals := by rw [hL.1, hlen, hml]
      unfold lstep at hr
      split at hr
      -- iaload
      · obtain rfl := hn.resolve_left Bool.false_ne_true
        split at hr
        · rename_i N g j r
          split at hr
          · rename_i hin
            obtain ⟨ha, cl, A, hN, hv⟩ : SRep Z T.heap a n0 (some (N, g)) := I.1
            refine Don.step (fun t q => ?_) (ihk p l e s₀ m args below meth cd T locs _ ls (.int (g (ix j)) :: r) w v w' L hx hZ hown hret hml hlk hs0 hdec hr X hc1 hc2 I hFr hL hlen)
            exact X.iaload hx A.1 (State.isArrayOf_alike hZ.alike A.2.1) A.2.2 (by rw [hN]; exact inb_not hin) (hv (ix j) (inb_ix hin)) (g := mkF m pc L (.int j :: .ref a :: r.map (va (rho a n0 (P.al.length + 1))))) rfl rfl hd t q
          · cases hr
        · cases hr
      -- arraylength
      · obtain rfl := hn.resolve_left Bool.false_ne_true
        split at hr
        · rename_i N g r
          obtain ⟨ha, cl, A, hN, hv⟩ : SRep Z T.heap a n0 (some (N, g)) := I.1
          refine Don.step (fun t q => ?_) (ihk p l e s₀ m args below meth cd T locs _ ls (.int (Int32.ofNat N) :: r) w v w' L hx hZ hown hret hml hlk hs0 hdec hr X hc1 hc2 I hFr hL hlen)
          exact X.arraylength hx A.1 (State.isArrayOf_alike hZ.alike A.2.1) (g := mkF m pc L (.ref a :: r.map (va (rho a n0 (P.al.length + 1))))) rfl rfl hd t (by rw [hN]; exact q)
        · cases hr
      -- constants
      · obtain rfl := hn.resolve_left Bool.false_ne_true
        split at hr
        · rename_i z hg
          exact Don.step (fun t q => X.ldcI hx hown (mv hZ (LL.2.2.2.2.1 _ _ hg)) (g := mkF m pc L (st.map (va (rho a n0 (P.al.length + 1))))) rfl hd q) (ihk p l e s₀ m args below meth cd T locs _ ls (.int z :: st) w v w' L hx hZ hown hret hml hlk hs0 hdec hr X hc1 hc2 I hFr hL hlen)
        · cases hr
      · obtain rfl := hn.resolve_left Bool.false_ne_true
        split at hr
        · rename_i z hg
          exact Don.step (fun t q => X.ldc2J hx hown (mv hZ (LL.2.2.2.2.1 _ _ hg)) (g := mkF m pc L (st.map (va (rho a n0 (P.al.length + 1))))) rfl hd q) (ihk p l e s₀ m args below meth cd T locs _ ls (.long z :: st) w v w' L hx hZ hown hret hml hlk hs0 hdec hr X hc1 hc2 I hFr hL hlen)
        · cases hr
      -- new
      · obtain rfl := hn.resolve_left Bool.false_ne_true
        split at hr
        · rename_i hg
          obtain ⟨rfl, rfl, hp, hg1, hg2⟩ := hg
          obtain ⟨os, cnt, pend⟩ := w
          dsimp only at hp hg1 hg2 hr
          subst hp
          have hk : lco P 0 (os, cnt, false) = cnt * (P.al.length + 1) := by simp [lco]
          have hz : lzo P Q 0 (os, cnt, false) = cnt * (Q.nf + zs P.al P.al.length) := by simp [lzo]
          have m1 : (cnt + 1) * (P.al.length + 1) = cnt * (P.al.length + 1) + (P.al.length + 1) := Nat.succ_mul ..
          have m2 : (cnt + 1) * (Q.nf + zs P.al P.al.length) = cnt * (Q.nf + zs P.al P.al.length) + (Q.nf + zs P.al P.al.length) := Nat.succ_mul ..
          rw [hk, hz] at X
          obtain ⟨T', h', X', q1, E, A, D, -, st1⟩ := newO X hx hZ hown LL.1.1 LL.1.2 LK.1.2 rfl (g := mkF m pc L (st.map (va (rho a n0 (P.al.length + 1))))) rfl hd (by simp only [lRoom, if_true]; omega) (by simp only [lRoom, if_true]; omega)
          obtain ⟨i1, i2, i3, i4⟩ := I
          have hsz : T.heap.size = n0 + cnt * (P.al.length + 1) := by simpa using i4
          have hsz' : h'.size = n0 + cnt * (P.al.length + 1) + 1 := by
            have g1 : T'.heap.size ≤ s₀.heap.size + (cnt * (P.al.length + 1) + 1) := X'.heapSize
            have g2 : T.heap.size < Array.size h' := A.lt
            rw [q1, hs0 rfl] at g1
            rw [hsz] at g2
            omega
          have same : ∀ x, x < T.heap.size → h'[x]? = T.heap[x]? := fun x hx => by
            obtain ⟨cc, hcc⟩ : ∃ cc, T.heap[x]? = some cc := ⟨T.heap[x], Array.getElem?_eq_getElem hx⟩
            rw [hcc]; exact E.2 _ _ hcc
          have I' : LRep P Z T'.heap a n0 sc (uo os cnt s0, cnt, true) := by
            rw [q1]
            refine ⟨i1.congr fun x hx => same x (by omega), fun o ho => ?_, fun _ => ?_, by simpa using hsz'⟩
            · have := (i2 o ho).congr (h' := h') fun x hx1 hx2 => same x (by have := rng (K := P.al.length + 1) (show o < cnt from ho); omega)
              simpa [uo, show o ≠ cnt from Nat.ne_of_lt ho] using this
            · simp only [uo, if_true]
              rw [hsz] at A D
              refine ⟨A, fun k fe hk => ?_, fun j tt N hj hc => absurd hc (Nat.not_lt_zero _), fun j i hj => ⟨rfl, rfl⟩, Nat.zero_le _⟩
              have q := D (laid_of LK hk) (LK.2.2.2.1 k fe hk)
              have e2 : Fval (n0 + cnt * (P.al.length + 1)) 0 s0 k fe = defaultValue (fkTy P fe.2.2.1) := by
                simp only [Fval]; split
                · rename_i e3; rw [e3]; rfl
                · rename_i e3; rw [e3]; rfl
                · rename_i e3; rw [e3]; rfl
                · rename_i e3; rw [e3]; rfl
              rw [e2]; exact q
          refine Don.step (fun t q => st1 t ?_) (ihk p l e s₀ m args below meth cd T' locs _ ls (.ref (cnt + 1) :: st) _ v w' L hx hZ hown hret hml hlk hs0 hdec hr (by simpa [lco, lzo] using X') (by simp only [lRoom, if_true]; omega) (by simp only [lRoom, if_true]; omega) I' hFr hL hlen)
          rw [hsz]; exact q
        · cases hr
      -- the constructor
      · obtain rfl := hn.resolve_left Bool.false_ne_true
        split at hr
        · cases hr
        · rename_i me' hme'
          split at hr
          · rename_i o r hst
            split at hr
            · rename_i hg
              obtain ⟨rfl, rfl, hgo, hp, hg1, hg2, hg3, hg4, hg5⟩ := hg
              obtain ⟨os, cnt, pend⟩ := w
              dsimp only at hgo hp hg1 hg2 hr hg4 hg5
              subst hp hgo
              obtain ⟨bytes, ps, hcode, hdec', hpar, hpl⟩ := LK.2.2.2.2.2.2.2.2.1 0 me' hme'
              obtain ⟨w1, w2, hrt⟩ := LL.2.1 me' hme'
              have hcode' := hcode
              rw [hrt] at hcode'
              have hini := LK.2.2.2.2.2.2.2.2.2.2.2.2 me' hme'
              have m1 : (o + 1) * (P.al.length + 1) = o * (P.al.length + 1) + (P.al.length + 1) := Nat.succ_mul ..
              have m2 : (o + 1) * (Q.nf + zs P.al P.al.length) = o * (Q.nf + zs P.al P.al.length) + (Q.nf + zs P.al P.al.length) := Nat.succ_mul ..
              simp only [ccall, hme'] at hr
              by_cases hla : (layA (Value.ref 0 :: (st.take me'.na).reverse)).length ≤ me'.ml
              · rw [if_pos hla] at hr
                cases hcl : cexec P f 0 me' 0 0 (lay (.ref 0 :: (st.take me'.na).reverse) me'.ml) [] (os o) with
                | none => rw [hcl] at hr; cases hr
                | some vs =>
                  obtain ⟨u, s1⟩ := vs
                  rw [hcl] at hr
                  cases u with
                  | some u => cases hr
                  | none =>
                    dsimp only at hr
                    obtain ⟨i1, i2, i3, i4⟩ := I
                    have hsz : T.heap.size = n0 + o * (P.al.length + 1) + 1 := by simpa using i4
                    have hM := met_of_CW LK hme' (cwalk LK (n0 := n0) (adr := n0 + o * (P.al.length + 1)) (Nat.le_add_right _ _) f 0 me' hme') l hdec' (as := .ref 0 :: (st.take me'.na).reverse) (nd_rev (ρ := id) (nr_nd hg3)) hla hcl (fun _ => rfl) (i3 rfl) (fun _ => hsz)
                    have hB := backOf (R := lRoom Q 0 me) (p := p) (e := e) (below := below) (s := s₀) (args := args) (len := 3) (W := cats r) hM hZ hcode LK.1.2 hg1 hg2
                    have hdl : me'.na < st.length := by
                      have := congrArg List.length hst
                      simp at this; omega
                    have hsp : st = st.take me'.na ++ .ref (o + 1) :: r := by rw [← hst, List.take_append_drop]
                    have hrv : ∀ ρ : Nat → Nat, (st.take me'.na).reverse.map (va ρ) = (st.take me'.na).reverse := fun ρ => by rw [List.map_reverse, nr_map hg3]
                    have hsm : st.map (va (rho a n0 (P.al.length + 1))) = ((st.take me'.na).reverse).reverse ++ .ref (n0 + o * (P.al.length + 1)) :: r.map (va (rho a n0 (P.al.length + 1))) := by
                      conv => lhs; rw [hsp]
                      rw [List.map_append, nr_map hg3]; simp [va, rho]
                    have hll : ∀ sig, parseMethodDescriptor (yOf P me').desc = some sig → ((st.take me'.na).reverse).length = sig.parameters.length := lenOf hpar (by simp [hpl]; omega)
                    have hk : lco P 0 (os, o, true) = o * (P.al.length + 1) + 1 := by simp [lco]
                    have hz : lzo P Q 0 (os, o, true) = o * (Q.nf + zs P.al P.al.length) + Q.nf := by simp [lzo]
                    rw [hk, hz] at X
                    have hpre : ∀ vm₁, s₀.WarmedH vm₁ → ((Value.ref (n0 + o * (P.al.length + 1)) :: (st.take me'.na).reverse).toArray = ((Value.ref 0 :: (st.take me'.na).reverse).map (va ((n0 + o * (P.al.length + 1)) + ·))).toArray ∧ (T.setVm vm₁).heap = T.heap ∧ o * (P.al.length + 1) + 1 + (cRoom P 0 me').cells ≤ (lRoom Q 0 me).cells ∧ o * (Q.nf + zs P.al P.al.length) + Q.nf + (cRoom P 0 me').slots ≤ (lRoom Q 0 me).slots) := fun vm₁ _ => by
                      refine ⟨by rw [List.map_cons, hrv]; rfl, rfl, ?_, ?_⟩
                      · show o * (P.al.length + 1) + 1 + P.al.length ≤ Q.rc
                        exact ar1 m1 hg4
                      · show o * (Q.nf + zs P.al P.al.length) + Q.nf + zs P.al P.al.length ≤ Q.rs
                        exact ar5 m2 hg5
                    obtain ⟨v', vm₁, ⟨U, lo, ce, sl⟩, -, X', ⟨Lc, hQ, l1, l2, l3⟩, stp⟩ := X.specialBack hx (y := yOf P me') hini hown (mv hZ w1) (mv hZ w2) (mv hZ hcode') LK.2.2.2.2.2.2.2.2.2.2.2.1 hB (g := mkF m pc L (st.map (va (rho a n0 (P.al.length + 1))))) rfl hsize (Steps.refl _) hll hsm (by show 2 * 0 + _ ≤ _; rw [cats_va]; omega) hd hpre
                    dsimp only [Pt.U, Pt.locs, Pt.cells, Pt.slots] at X' hQ l1 l2 l3 stp
                    subst l1 l2 l3
                    obtain ⟨⟨rfl, -⟩, hF', hH', hK', hS'⟩ := hQ
                    rw [if_pos rfl] at hH' hS'
                    have I' : LRep P Z U.heap a n0 sc (uo os o s1, o + 1, false) := by
                      refine ⟨i1.congr fun x hx => hK' x (Or.inl (by omega)), fun o' ho' => ?_, fun q => by simp at q, by rw [hS']; show n0 + o * (P.al.length + 1) + 1 + P.al.length = n0 + (o + 1) * (P.al.length + 1) + 0; exact ar6 m1⟩
                      by_cases e2 : o' = o
                      · subst e2; simpa [uo] using hH'
                      · have ho2 : o' < o := by have : o' < o + 1 := ho'; omega
                        have := (i2 o' ho2).congr (h' := U.heap) fun x hx1 hx2 => hK' x (by have := rng (K := P.al.length + 1) ho2; omega)
                        simpa [uo, e2] using this
                    refine Don.step (fun t q => stp.trans q) (ihk p l e s₀ m args below meth cd U (locs ++ Lc) _ ls r _ v w' L hx hZ hown hret hml hlk hs0 hdec hr ?_ (by show (o + 1) * (P.al.length + 1) + 0 ≤ Q.rc; omega) (by show (o + 1) * (Q.nf + zs P.al P.al.length) + 0 ≤ Q.rs; omega) I' (hFr.app hF') hL hlen)
                    have h1 : lco P 0 (uo os o s1, o + 1, false) = o * (P.al.length + 1) + 1 + (cRoom P 0 me').cells := by
                      show (o + 1) * (P.al.length + 1) + 0 = o * (P.al.length + 1) + 1 + P.al.length
                      exact ar3 m1
                    have h2 : lzo P Q 0 (uo os o s1, o + 1, false) = o * (Q.nf + zs P.al P.al.length) + Q.nf + (cRoom P 0 me').slots := by
                      show (o + 1) * (Q.nf + zs P.al P.al.length) + 0 = o * (Q.nf + zs P.al P.al.length) + Q.nf + zs P.al P.al.length
                      exact ar4 m2
                    rw [h1, h2]; exact X'
              · rw [if_neg hla] at hr; cases hr
            · cases hr
          · cases hr
      -- a method of the class
      · obtain rfl := hn.resolve_left Bool.false_ne_true
        split at hr
        · cases hr
        · rename_i m' hm'
          split at hr
          · cases hr
          · rename_i me' hme'
            split at hr
            · rename_i o r hst
              split at hr
              · rename_i hg
                obtain ⟨hg0, hgo, hg1, hg2, hg3⟩ := hg
                obtain ⟨bytes, ps, hcode, hdec', hpar, hpl⟩ := LK.2.2.2.2.2.2.2.2.1 m' me' hme'
                obtain ⟨w1, w2, w3, w4⟩ := LL.2.2.1 _ _ hm' me' hme'
                simp only [ccall, hme'] at hr
                by_cases hla : (layA (Value.ref 0 :: (st.take me'.na).reverse)).length ≤ me'.ml
                · rw [if_pos hla] at hr
                  cases hcl : cexec P f m' me' P.al.length 0 (lay (.ref 0 :: (st.take me'.na).reverse) me'.ml) [] (w.1 o) with
                  | none => rw [hcl] at hr; cases hr
                  | some vs =>
                    obtain ⟨u, s1⟩ := vs
                    rw [hcl] at hr
                    have hr' : lexec P Q sc f mi me (pc + 3) ls (u.toList ++ r) (uo w.1 o s1, w.2.1, w.2.2) = some (v, w') := by cases u <;> exact hr
                    have hM := met_of_CW LK hme' (cwalk LK (n0 := n0) (adr := n0 + o * (P.al.length + 1)) (Nat.le_add_right _ _) f m' me' hme') l hdec' (as := .ref 0 :: (st.take me'.na).reverse) (nd_rev (ρ := id) (nr_nd hg3)) hla hcl (fun q => absurd q hg0) (I.2.1 o hgo) (fun q => absurd q hg0)
                    have hB := backOf (R := lRoom Q mi me) (p := p) (e := e) (below := below) (s := s₀) (args := args) (len := 3) (W := cats r) hM hZ hcode LK.1.2 hg1 hg2
                    have hdl : me'.na < st.length := by
                      have := congrArg List.length hst
                      simp at this; omega
                    have hsp : st = st.take me'.na ++ .ref (o + 1) :: r := by rw [← hst, List.take_append_drop]
                    have hrv : ∀ ρ : Nat → Nat, (st.take me'.na).reverse.map (va ρ) = (st.take me'.na).reverse := fun ρ => by rw [List.map_reverse, nr_map hg3]
                    have hsm : st.map (va (rho a n0 (P.al.length + 1))) = ((st.take me'.na).reverse).reverse ++ .ref (n0 + o * (P.al.length + 1)) :: r.map (va (rho a n0 (P.al.length + 1))) := by
                      conv => lhs; rw [hsp]
                      rw [List.map_append, nr_map hg3]; simp [va, rho]
                    have hll : ∀ sig, parseMethodDescriptor (yOf P me').desc = some sig → ((st.take me'.na).reverse).length = sig.parameters.length := lenOf hpar (by simp [hpl]; omega)
                    have hz1 : (cRoom P m' me').cells = 0 := by simp [cRoom, hg0]
                    have hz2 : (cRoom P m' me').slots = 0 := by simp [cRoom, hg0]
                    have hpre : ∀ vm₁, s₀.WarmedH vm₁ → ((Value.ref (n0 + o * (P.al.length + 1)) :: (st.take me'.na).reverse).toArray = ((Value.ref 0 :: (st.take me'.na).reverse).map (va ((n0 + o * (P.al.length + 1)) + ·))).toArray ∧ (T.setVm vm₁).heap = T.heap ∧ lco P mi w + (cRoom P m' me').cells ≤ (lRoom Q mi me).cells ∧ lzo P Q mi w + (cRoom P m' me').slots ≤ (lRoom Q mi me).slots) := fun vm₁ _ => by
                      refine ⟨by rw [List.map_cons, hrv]; rfl, rfl, ?_, ?_⟩
                      · rw [hz1]; simp only [lco, lRoom] at *; split
                        · simpa using hc1
                        · exact Nat.le_refl _
                      · rw [hz2]; simp only [lzo, lRoom] at *; split
                        · simpa using hc2
                        · exact Nat.le_refl _
                    obtain ⟨cq, kq, qa, qb, qc⟩ := isOf hZ rfl (I.2.1 o hgo).1
                    obtain ⟨v', vm₁, ⟨U, lo, ce, sl⟩, -, X', ⟨Lc, hQ, l1, l2, l3⟩, stp⟩ := X.virtualBack hx (y := yOf P me') (z := yOf P me') hown (mv hZ w1) (mv hZ w2) (notFace_of_selects (args := #[]) (mv hZ w4)) (mv hZ w4) (mv hZ w3) LK.2.2.2.2.2.2.2.2.2.2.2.1 hB qa qc (g := mkF m pc L (st.map (va (rho a n0 (P.al.length + 1))))) rfl hsize (Steps.refl _) hll hsm (by show 2 * 0 + _ ≤ _; rw [cats_va]; omega) hd hpre
                    dsimp only [Pt.U, Pt.locs, Pt.cells, Pt.slots] at X' hQ l1 l2 l3 stp
                    subst l1 l2 l3
                    obtain ⟨⟨rfl, hva⟩, hF', hH', hK', hS'⟩ := hQ
                    rw [if_neg hg0] at hH' hS'
                    rw [hz1, hz2] at X'
                    refine Don.step (fun t q => stp.trans ?_) (ihk p l e s₀ m args below meth cd U (locs ++ Lc) _ ls (v'.toList ++ r) _ v w' L hx hZ hown hret hml hlk hs0 hdec hr' X' hc1 hc2 (I.call hgo hK' hS' hH') (hFr.app hF') hL hlen)
                    rw [List.map_append, hva] at q; exact q
                · rw [if_neg hla] at hr; cases hr
              · cases hr
            · cases hr
      -- a static method of the law
      · obtain rfl := hn.resolve_left Bool.false_ne_true
        split at hr
        · cases hr
        · rename_i m' hm'
          split at hr
          · cases hr
          · rename_i me' hme'
            split at hr
            · rename_i hg
              obtain ⟨hg0, hgn, hg1, hg2, hg3⟩ := hg
              obtain ⟨bytes, ps, hcode, hdec', hpar, hpl⟩ := LL.2.2.2.2.2.1 m' me' hme' hg0
              obtain ⟨w1, w2, w3⟩ := LL.2.2.2.1 _ _ hm' me' hme'
              dsimp only at hr
              rw [hme'] at hr
              dsimp only at hr
              by_cases hla : (layA (st.take me'.na).reverse).length ≤ me'.ml
              · rw [if_pos hla] at hr
                cases hcl : lexec P Q sc f m' me' 0 (lay (st.take me'.na).reverse me'.ml) [] w with
                | none => rw [hcl] at hr; cases hr
                | some vs =>
                  obtain ⟨u, w2'⟩ := vs
                  rw [hcl] at hr
                  have hr' : lexec P Q sc f mi me (pc + 3) ls (u.toList ++ st.drop me'.na) w2' = some (v, w') := by cases u <;> exact hr
                  have hndv : ∀ v ∈ (st.take me'.na).reverse, ∀ x, v ≠ .double x := fun v hv x e => nd_spec hg3 v (List.mem_reverse.mp hv) x e
                  have hM := met_of_LW LL (ih m' me' hme') hg0 l hdec' (as := (st.take me'.na).reverse) hndv hla hcl (by simpa [lRoom] using hc1) (by simpa [lRoom] using hc2) I
                  have hB := backOf (R := lRoom Q mi me) (p := p) (e := e) (below := below) (s := s₀) (args := args) (len := 3) (W := cats (st.drop me'.na)) hM hZ hcode w3 hg1 hg2
                  have hsm : st.map (va (rho a n0 (P.al.length + 1))) = (((st.take me'.na).reverse).map (va (rho a n0 (P.al.length + 1)))).reverse ++ (st.drop me'.na).map (va (rho a n0 (P.al.length + 1))) := by
                    conv => lhs; rw [← List.take_append_drop me'.na st]
                    simp
                  have hll : ∀ sig, parseMethodDescriptor (zOf Q me').desc = some sig → (((st.take me'.na).reverse).map (va (rho a n0 (P.al.length + 1)))).length = sig.parameters.length := lenOf hpar (by simp [hpl]; omega)
                  have hz1 : (lRoom Q m' me').cells = 0 := by simp [lRoom, hg0]
                  have hz2 : (lRoom Q m' me').slots = 0 := by simp [lRoom, hg0]
                  have hpre : ∀ vm₁, s₀.WarmedH vm₁ → ((((st.take me'.na).reverse).map (va (rho a n0 (P.al.length + 1)))).toArray = (((st.take me'.na).reverse).map (va (rho a n0 (P.al.length + 1)))).toArray ∧ (T.setVm vm₁).heap = T.heap ∧ lco P mi w + (lRoom Q m' me').cells ≤ (lRoom Q mi me).cells ∧ lzo P Q mi w + (lRoom Q m' me').slots ≤ (lRoom Q mi me).slots) := fun vm₁ _ => by
                    refine ⟨rfl, rfl, ?_, ?_⟩
                    · rw [hz1]; simp only [lco, lRoom] at *; split
                      · simpa using hc1
                      · exact Nat.le_refl _
                    · rw [hz2]; simp only [lzo, lRoom] at *; split
                      · simpa using hc2
                      · exact Nat.le_refl _
                  obtain ⟨v', vm₁, ⟨U, lo, ce, sl⟩, -, X', ⟨Lc, hQ, l1, l2, l3⟩, stp⟩ := Jvm.LawKit.callS X hx (y := zOf Q me') hown (mv hZ w1) (mv hZ w2) (mv hZ w3) (mv hZ hcode) LL.2.2.2.2.2.2.2 hB (g := mkF m pc L (st.map (va (rho a n0 (P.al.length + 1))))) rfl hsize hll hsm (by show 2 * 0 + _ ≤ _; rw [cats_va]; omega) hd hpre
                  dsimp only [Pt.U, Pt.locs, Pt.cells, Pt.slots] at X' hQ l1 l2 l3 stp
                  subst l1 l2 l3
                  obtain ⟨⟨rfl, hva⟩, hF', hI'⟩ := hQ
                  rw [hz1, hz2] at X'
                  have hcn := lexec_cnt _ _ _ _ _ _ _ _ _ hg0 hcl
                  have e1 : lco P mi w2' = lco P mi w := by simp only [lco, hcn]
                  have e2 : lzo P Q mi w2' = lzo P Q mi w := by simp only [lzo, hcn]
                  refine Don.step (fun t q => stp t ?_) (ihk p l e s₀ m args below meth cd U (locs ++ Lc) _ ls (v'.toList ++ st.drop me'.na) _ v w' L hx hZ hown hret hml hlk hs0 hdec hr' (by rw [e1, e2]; exact X') (by rw [hcn]; exact hc1) (by rw [hcn]; exact hc2) hI' (hFr.app hF') hL hlen)
                  rw [List.map_append, hva] at q; exact q
              · rw [if_neg hla] at hr; cases hr
            · cases hr
      -- the rest
      · split at hr
        · split at hr
          · rename_i u hu
            cases hr
            refine st_ret X hx hret hlk hu hd hn ⟨⟨rfl, cret_va hu⟩, hFr, I⟩ ?_ ?_
            · simp only [lco, lRoom] at *; split
              · simpa using hc1
              · exact Nat.le_refl _
            · simp only [lzo, lRoom] at *; split
              · simpa using hc2
              · exact Nat.le_refl _
          · cases hr
        · split at hr
          · rename_i pc' ls' st' hp
            obtain ⟨L', hL', hLs, st⟩ := pstep_sound X hx hp hd hn hL
            have hlen' : ls'.length = me.ml := by rw [← hL'.1, hLs, hL.1]; exact hlen
            exact Don.step st (ihk p l e s₀ m args below meth cd T locs _ ls' st' w v w' L' hx hZ hown hret hml hlk hs0 hdec hr X hc1 hc2 I hFr hL' hlen')
          · cases hr
/-- the law as a whole: what the machine returns, the program returns -/
theorem law_met {P : Cl} {Q : Lw} {sc : Sc} {Z : State} {a0 : Array Value} (LK : LinkC P Z a0) (LL : LinkL P Q Z a0) {a f : Nat} {me : Me} (hme : asc Q.ms 0 = some me) (l : Launch) {bytes : ByteArray} {ws : List Cond}
    (hdec : ∀ pc i n, fetch me.cd pc = some (i, n) → decode bytes pc = .ok (i, n) ∧ (isSw i = true ∨ n = ilen i))
    {as : List Value} (hnd : nd as = true) (hlen : (layA as).length ≤ me.ml) {v : Option Value} {w' : Wd} {h : Heap} (hr : lexec P Q sc f 0 me 0 (lay as me.ml) [] (fun _ => s0, 0, false) = some (v, w')) (hS : SRep Z h a h.size sc) :
    MetFree l (zOf Q me) (head1 (Cond.code (zOf Q me) bytes me.ml (retOf me.rt) :: ws) (lRoom Q 0 me)) (fun b U => b = (as.map (va (rho a h.size (P.al.length + 1)))).toArray ∧ Z.Warmed39 U.vm ∧ U.heap = h) (fun _ _ _ _ _ => True)
      (fun _ U o U' => ∃ u L, o = .returned u ∧ (u = v ∧ Fr h.size L) ∧ FrameEnd U o U' L Q.rc Q.rs) := by
  refine MetFree.of_bodySF (plainFor_of_name LL.2.2.2.2.2.2.1) hisR ?_
  intro p e s₀ m args below meth cd s₁ Bd hml hP hK
  obtain ⟨rfl, hZ, hh⟩ := hP
  have e0 : s₁.heap = h := by rw [← hh, Bd.state]; rfl
  have X0 : Stand p l e (lRoom Q 0 me) s₀ m _ below meth cd s₁ [] 0 0 := Stand.of_body Bd
  have hown : s₀.vm.findClass Q.nm = some m.cls := findClass_of_methodNamed Bd.named
  have hk0 : lco P 0 (fun _ => s0, 0, false) = 0 := by simp [lco]
  have hz0 : lzo P Q 0 (fun _ => s0, 0, false) = 0 := by simp [lzo]
  have D := lwalk LK LL (sc := sc) (a := a) (n0 := h.size) f 0 me hme p l e s₀ m _ below meth cd s₁ [] 0 (lay as me.ml) [] (fun _ => s0, 0, false) v w' _ Bd.exec hZ hown Bd.returns hml Bd.notSynchronized (fun _ => by rw [hh])
    (fun pc i n q => by rw [Bd.bytes]; exact hdec pc i n q) hr (by rw [hk0, hz0]; exact X0) (by simp) (by simp) (by
      rw [e0]; exact ⟨hS, fun o ho => absurd ho (Nat.not_lt_zero _), fun q => by simp at q, by simp⟩) (Fr.nil _) (lay_LR (nd_spec hnd) hlen) (lay_len hlen)
  obtain ⟨s₂, o, a1, a2, a3, u, L, a4, a5, a6⟩ := D
  refine ⟨s₂, o, a1, a2, a3, u, L, a4, ⟨a5.1.1, a5.2.1⟩, ?_⟩
  simpa [lRoom] using a6
end Jvm.LM

namespace Jvm.LM
open Sem ClassFile Op Lib Jvm.Stand Jvm.Free Jvm.LawKit Jvm.RoadKit
/-! what a run of the machine comes to -/
theorem cstep_mono {α : Type} {P : Cl} {mi : Nat} {me : Me} {rt : Option Value → St → Option α} {cl cl' : Nat → Nat → List Value → St → Rs} {k k' : Nat → Nat → Lv → List Value → St → Option α} {i : Instr} {c pc : Nat} {ls : Lv} {st : List Value} {s : St} {r : α}
    (hcl : ∀ m c as s r, cl m c as s = some r → cl' m c as s = some r) (hk : ∀ c pc ls st s r, k c pc ls st s = some r → k' c pc ls st s = some r) (h : cstep P mi me rt cl k i c pc ls st s = some r) : cstep P mi me rt cl' k' i c pc ls st s = some r := by
  unfold cstep at h ⊢
  split at h
  all_goals (try dsimp only)
  · split at h
    · split at h
      · exact hk _ _ _ _ _ _ h
      · cases h
    · cases h
  · split at h
    · split at h
      · exact hk _ _ _ _ _ _ h
      · cases h
    · cases h
  · split at h
    · exact hk _ _ _ _ _ _ h
    · cases h
  · split at h
    · exact hk _ _ _ _ _ _ h
    · cases h
  · split at h
    · exact hk _ _ _ _ _ _ h
    · cases h
  · split at h
    · exact hk _ _ _ _ _ _ h
    · cases h
  · split at h
    · exact hk _ _ _ _ _ _ h
    · cases h
  · split at h
    · exact hk _ _ _ _ _ _ h
    · cases h
  · split at h
    · rename_i q; rw [if_pos q]; exact hk _ _ _ _ _ _ h
    · cases h
  · split at h
    · exact hk _ _ _ _ _ _ h
    · cases h
  · split at h
    · exact hk _ _ _ _ _ _ h
    · cases h
  · split at h
    · split at h
      · rename_i q; rw [if_pos q]; exact hk _ _ _ _ _ _ h
      · cases h
    · cases h
  · split at h
    · cases h
    · rename_i m' hm'
      split at h
      · cases h
      · rename_i me' hme'
        split at h
        · rename_i r0 hst
          split at h
          · rename_i q
            rw [if_pos q]
            split at h
            · rename_i s1 hc; rw [hcl _ _ _ _ _ hc]; exact hk _ _ _ _ _ _ h
            · rename_i v1 s1 hc; rw [hcl _ _ _ _ _ hc]; exact hk _ _ _ _ _ _ h
            · cases h
          · cases h
        · cases h
  · split at h
    · rename_i q; rw [if_pos q]; exact h
    · rename_i q; rw [if_neg q]
      split at h
      · exact hk _ _ _ _ _ _ h
      · cases h
theorem cexec_succ {P : Cl} : ∀ f mi me c pc ls st s r, cexec P f mi me c pc ls st s = some r → cexec P (f + 1) mi me c pc ls st s = some r := by
  intro f
  induction f with
  | zero => intro mi me c pc ls st s r h; cases h
  | succ f ih =>
    intro mi me c pc ls st s r h
    rw [cexec] at h ⊢
    split at h
    · cases h
    · refine cstep_mono (fun m c as s r h => ?_) (fun c pc ls st s r h => ih _ _ _ _ _ _ _ _ h) h
      split at h
      · split at h
        · rename_i q; rw [if_pos q]; exact ih _ _ _ _ _ _ _ _ h
        · cases h
      · cases h
theorem cexec_le {P : Cl} {f g mi : Nat} {me : Me} {c pc : Nat} {ls : Lv} {st : List Value} {s : St} {r : Option Value × St} (hfg : f ≤ g) (h : cexec P f mi me c pc ls st s = some r) : cexec P g mi me c pc ls st s = some r := by
  obtain ⟨d, rfl⟩ := Nat.le.dest hfg
  induction d with
  | zero => exact h
  | succ d ih => exact cexec_succ _ _ _ _ _ _ _ _ _ (ih (Nat.le_add_right _ _))
theorem ccall_le {P : Cl} {f g m' c : Nat} {as : List Value} {s : St} {r : Option Value × St} (hfg : f ≤ g) (h : ccall P f m' c as s = some r) : ccall P g m' c as s = some r := by
  unfold ccall at h ⊢
  split at h
  · split at h
    · rename_i q; rw [if_pos q]; exact cexec_le hfg h
    · cases h
  · cases h
def wpc (P : Cl) (mi : Nat) (me : Me) (c pc : Nat) (ls : Lv) (st : List Value) (s : St) (Q : Option Value → St → Prop) : Prop := ∃ f v s', cexec P f mi me c pc ls st s = some (v, s') ∧ Q v s'
def cal (P : Cl) (m' c : Nat) (as : List Value) (s : St) (Q : Option Value → St → Prop) : Prop := ∃ f v s', ccall P f m' c as s = some (v, s') ∧ Q v s'
def calI (P : Cl) (m' c : Nat) (as : List Value) (s : St) (Q : Int32 → St → Prop) : Prop := cal P m' c as s fun r s' => ∃ v, r = some (.int v) ∧ Q v s'
def calL (P : Cl) (m' c : Nat) (as : List Value) (s : St) (Q : Int64 → St → Prop) : Prop := cal P m' c as s fun r s' => ∃ v, r = some (.long v) ∧ Q v s'
def calV (P : Cl) (m' c : Nat) (as : List Value) (s : St) (Q : St → Prop) : Prop := cal P m' c as s fun r s' => r = none ∧ Q s'
theorem cstep_nat {α : Type} {P : Cl} {mi : Nat} {me : Me} {k : Nat → Nat → Lv → List Value → St → Option α} {i : Instr} {c pc : Nat} {ls : Lv} {st : List Value} {s : St} {x : α}
    (h : cstep P mi me (fun _ _ => none) (fun _ _ _ _ => none) k i c pc ls st s = some x) : ∃ c' pc' ls' st' s', k c' pc' ls' st' s' = some x ∧ ∀ (β : Type) (rt : Option Value → St → Option β) cl (k' : Nat → Nat → Lv → List Value → St → Option β), cstep P mi me rt cl k' i c pc ls st s = k' c' pc' ls' st' s' := by
  unfold cstep at h
  split at h
  · split at h
    · split at h
      · rename_i q; exact ⟨_, _, _, _, _, h, fun β rt cl k' => by simp only [cstep, q]⟩
      · cases h
    · cases h
  · split at h
    · split at h
      · rename_i q; exact ⟨_, _, _, _, _, h, fun β rt cl k' => by simp only [cstep, q]⟩
      · cases h
    · cases h
  · split at h
    · rename_i q; exact ⟨_, _, _, _, _, h, fun β rt cl k' => by simp only [cstep, q]⟩
    · cases h
  · split at h
    · rename_i q; exact ⟨_, _, _, _, _, h, fun β rt cl k' => by simp only [cstep, q]⟩
    · cases h
  · split at h
    · rename_i q; exact ⟨_, _, _, _, _, h, fun β rt cl k' => by simp only [cstep, q]⟩
    · cases h
  · split at h
    · rename_i q; exact ⟨_, _, _, _, _, h, fun β rt cl k' => by simp only [cstep, q]⟩
    · cases h
  · split at h
    · rename_i q; exact ⟨_, _, _, _, _, h, fun β rt cl k' => by simp only [cstep, q]⟩
    · cases h
  · split at h
    · rename_i q; exact ⟨_, _, _, _, _, h, fun β rt cl k' => by simp only [cstep, q]⟩
    · cases h
  · split at h
    · rename_i q; exact ⟨_, _, _, _, _, h, fun β rt cl k' => by simp only [cstep]; rw [if_pos q]⟩
    · cases h
  · split at h
    · rename_i q; exact ⟨_, _, _, _, _, h, fun β rt cl k' => by simp only [cstep, q]⟩
    · cases h
  · split at h
    · rename_i q; exact ⟨_, _, _, _, _, h, fun β rt cl k' => by simp only [cstep, q]⟩
    · cases h
  · split at h
    · split at h
      · rename_i q; exact ⟨_, _, _, _, _, h, fun β rt cl k' => by simp only [cstep]; rw [if_pos q]⟩
      · cases h
    · cases h
  · split at h
    · cases h
    · split at h
      · cases h
      · split at h
        · split at h
          · cases h
          · cases h
        · cases h
  · rename_i n1 n2 n3 n4 n5 n6 n7 n8 n9 n10 n11 n12 n13
    split at h
    · split at h
      · cases h
      · split at h <;> cases h
    · rename_i hr
      split at h
      · rename_i pc' ls' st' hp
        refine ⟨_, _, _, _, _, h, fun β rt cl k' => ?_⟩
        unfold cstep
        split <;> first | (exfalso; first | exact n1 _ rfl | exact n2 _ rfl | exact n3 rfl | exact n4 rfl | exact n5 rfl | exact n6 rfl | exact n7 rfl | exact n8 rfl | exact n9 _ rfl | exact n10 _ rfl | exact n11 _ rfl | exact n12 _ rfl | exact n13 _ rfl) | skip
        rw [if_neg hr, hp]
      · cases h
def csl (P : Cl) (mi : Nat) (me : Me) : Nat → Nat → Nat → Lv → List Value → St → Option (Nat × Nat × Lv × List Value × St)
  | 0, c, pc, ls, st, s => some (c, pc, ls, st, s)
  | n + 1, c, pc, ls, st, s => match fetch me.cd pc with
    | none => none
    | some (i, _) => cstep P mi me (fun _ _ => none) (fun _ _ _ _ => none) (csl P mi me n) i c pc ls st s
theorem wpc_one {P : Cl} {mi : Nat} {me : Me} {c pc c' pc' : Nat} {ls ls' : Lv} {st st' : List Value} {s s' : St} {Q : Option Value → St → Prop} {i : Instr} {n : Nat} (hf : fetch me.cd pc = some (i, n))
    (h : ∀ (rt : Option Value → St → Rs) cl (k : Nat → Nat → Lv → List Value → St → Rs), cstep P mi me rt cl k i c pc ls st s = k c' pc' ls' st' s') (hq : wpc P mi me c' pc' ls' st' s' Q) : wpc P mi me c pc ls st s Q := by
  obtain ⟨f, v, s2, h1, h2⟩ := hq
  refine ⟨f + 1, v, s2, ?_, h2⟩
  rw [cexec, hf]; dsimp only; rw [h]; exact h1
theorem wpc_sl {P : Cl} {mi : Nat} {me : Me} {Q : Option Value → St → Prop} : ∀ {n c pc c' pc' : Nat} {ls ls' : Lv} {st st' : List Value} {s s' : St}, csl P mi me n c pc ls st s = some (c', pc', ls', st', s') → wpc P mi me c' pc' ls' st' s' Q → wpc P mi me c pc ls st s Q := by
  intro n
  induction n with
  | zero => intro c pc c' pc' ls ls' st st' s s' h hq; cases h; exact hq
  | succ n ih =>
    intro c pc c' pc' ls ls' st st' s s' h hq
    simp only [csl] at h
    split at h
    · cases h
    · rename_i i m hf
      obtain ⟨c1, pc1, ls1, st1, s1, h1, h2⟩ := cstep_nat h
      exact wpc_one hf (fun rt cl k => h2 _ rt cl k) (ih h1 hq)
theorem wpc_ret {P : Cl} {mi : Nat} {me : Me} {c pc : Nat} {ls : Lv} {st : List Value} {s : St} {Q : Option Value → St → Prop} {i : Instr} {n : Nat} {v : Option Value} (hf : fetch me.cd pc = some (i, n)) (hr : isRet i = true) (hc : mi = 0 → c = P.al.length) (h : cret me st i = some v) (hq : Q v s) : wpc P mi me c pc ls st s Q := by
  refine ⟨1, v, s, ?_, hq⟩
  rw [cexec, hf]; dsimp only
  have hc' : ¬ (mi = 0 ∧ c ≠ P.al.length) := fun q => q.2 (hc q.1)
  cases i <;> first | (cases hr; done) | (simp only [cstep]; rw [if_pos hr, if_neg hc', h])
theorem wpc_if {P : Cl} {mi : Nat} {me : Me} {c pc a b : Nat} {ls : Lv} {r : List Value} {s : St} {Q : Option Value → St → Prop} {cd : ClassFile.Cond} {o : Int} {n : Nat} {x : Int32} (hf : fetch me.cd pc = some (.ifCond cd o, n)) (ho : 0 ≤ (pc : Int) + o) (ha : jmp pc o = a) (hb : pc + 3 = b)
    (hq : wpc P mi me c (br cd x 0 a b) ls r s Q) : wpc P mi me c pc ls (.int x :: r) s Q := by
  subst ha hb
  refine wpc_one hf (fun rt cl k => ?_) hq
  show (match pstep (.ifCond cd o) pc ls (.int x :: r) with | some (pc', ls', st') => k c pc' ls' st' s | none => none) = _
  simp only [pstep, qstep]; rw [if_pos ho]
theorem wpc_icmp {P : Cl} {mi : Nat} {me : Me} {c pc a b : Nat} {ls : Lv} {r : List Value} {s : St} {Q : Option Value → St → Prop} {cd : ClassFile.Cond} {o : Int} {n : Nat} {x y : Int32} (hf : fetch me.cd pc = some (.if_icmp cd o, n)) (ho : 0 ≤ (pc : Int) + o) (ha : jmp pc o = a) (hb : pc + 3 = b)
    (hq : wpc P mi me c (br cd x y a b) ls r s Q) : wpc P mi me c pc ls (.int y :: .int x :: r) s Q := by
  subst ha hb
  refine wpc_one hf (fun rt cl k => ?_) hq
  show (match pstep (.if_icmp cd o) pc ls (.int y :: .int x :: r) with | some (pc', ls', st') => k c pc' ls' st' s | none => none) = _
  simp only [pstep, qstep]; rw [if_pos ho]
/-- the two roads of a branch -/
theorem wpc_br {P : Cl} {mi : Nat} {me : Me} {c a b : Nat} {ls : Lv} {st : List Value} {s : St} {Q : Option Value → St → Prop} {p : Prop} [Decidable p] (h : (p → wpc P mi me c a ls st s Q) ∧ (¬ p → wpc P mi me c b ls st s Q)) : wpc P mi me c (if p then a else b) ls st s Q := by
  by_cases hp : p
  · rw [if_pos hp]; exact h.1 hp
  · rw [if_neg hp]; exact h.2 hp
theorem wpc_lda {P : Cl} {mi : Nat} {me : Me} {c pc a tt N : Nat} {ls : Lv} {r : List Value} {s : St} {Q : Option Value → St → Prop} {i : Instr} {n : Nat} {j : Int32} (hf : fetch me.cd pc = some (i, n)) (hi : (tt = 0 ∧ i = .iaload) ∨ (tt = 1 ∧ i = .baload) ∨ (tt = 2 ∧ i = .laload)) (ha : P.al[a]? = some (tt, N)) (hac : a < c)
    (hj : inb N j) (hq : wpc P mi me c (pc + 1) ls (elv tt s (a + 1) (ix j) :: r) s Q) : wpc P mi me c pc ls (.int j :: .ref (a + 1) :: r) s Q := by
  have hl : lda P tt c (.int j :: .ref (a + 1) :: r) s = some (elv tt s (a + 1) (ix j) :: r) := by
    simp only [lda, ha]; rw [if_pos ⟨trivial, hac⟩, if_pos hj]; rfl
  refine wpc_one hf (fun rt cl k => ?_) hq
  rcases hi with ⟨rfl, rfl⟩ | ⟨rfl, rfl⟩ | ⟨rfl, rfl⟩ <;> simp only [cstep, hl]
theorem wpc_sta {P : Cl} {mi : Nat} {me : Me} {c pc a tt N : Nat} {ls : Lv} {r : List Value} {s s' : St} {Q : Option Value → St → Prop} {i : Instr} {n : Nat} {j : Int32} {v : Value} (hf : fetch me.cd pc = some (i, n)) (hi : (tt = 0 ∧ i = .iastore ∧ ∃ z, v = .int z ∧ s' = sI s (a + 1) (ix j) z) ∨ (tt = 1 ∧ i = .bastore ∧ ∃ z, v = .int z ∧ s' = sI s (a + 1) (ix j) (z &&& 1)) ∨ (tt = 2 ∧ i = .lastore ∧ ∃ z, v = .long z ∧ s' = sL s (a + 1) (ix j) z)) (ha : P.al[a]? = some (tt, N)) (hac : a < c)
    (hj : inb N j) (hq : wpc P mi me c (pc + 1) ls r s' Q) : wpc P mi me c pc ls (v :: .int j :: .ref (a + 1) :: r) s Q := by
  have hl : sta P tt c (v :: .int j :: .ref (a + 1) :: r) s = some (r, s') := by
    simp only [sta, ha]; rw [if_pos ⟨trivial, hac⟩, if_pos hj]
    rcases hi with ⟨rfl, -, z, rfl, rfl⟩ | ⟨rfl, -, z, rfl, rfl⟩ | ⟨rfl, -, z, rfl, rfl⟩ <;> rfl
  refine wpc_one hf (fun rt cl k => ?_) hq
  rcases hi with ⟨rfl, rfl, -⟩ | ⟨rfl, rfl, -⟩ | ⟨rfl, rfl, -⟩ <;> simp only [cstep, hl]
theorem wpc_call {P : Cl} {mi : Nat} {me me' : Me} {c pc x m' : Nat} {ls : Lv} {st r as : List Value} {s : St} {Q : Option Value → St → Prop} {n : Nat} (hf : fetch me.cd pc = some (.invokevirtual x, n)) (hm : asc P.mx x = some m') (hme : asc P.ms m' = some me') (hst : st.drop me'.na = .ref 0 :: r) (has : (st.take me'.na).reverse = as)
    (hg : m' ≠ 0 ∧ me'.rf + 1 ≤ me.rf ∧ cats r + (me'.ml + 11) + me'.rl ≤ me.rl ∧ nd (st.take me'.na) = true)
    (hq : cal P m' c (.ref 0 :: as) s fun v s' => wpc P mi me c (pc + 3) ls (v.toList ++ r) s' Q) : wpc P mi me c pc ls st s Q := by
  subst has
  obtain ⟨f1, v, s1, h1, f2, v2, s2, h2, h3⟩ := hq
  refine ⟨max f1 f2 + 1, v2, s2, ?_, h3⟩
  have h1' := ccall_le (Nat.le_max_left f1 f2) h1
  have h2' := cexec_le (Nat.le_max_right f1 f2) h2
  rw [cexec, hf]; dsimp only
  simp only [cstep, hm, hme, hst]
  rw [if_pos hg]
  simp only [ccall, hme] at h1'
  rw [h1']
  cases v <;> exact h2'
theorem cal_of {P : Cl} {m' c : Nat} {as : List Value} {s : St} {Q : Option Value → St → Prop} {me : Me} {ls : Lv} (hme : asc P.ms m' = some me) (hl : (layA as).length ≤ me.ml) (hls : lay as me.ml = ls) (h : wpc P m' me c 0 ls [] s Q) : cal P m' c as s Q := by
  subst hls
  obtain ⟨f, v, s', h1, h2⟩ := h
  refine ⟨f, v, s', ?_, h2⟩
  simp only [ccall, hme]; rw [if_pos hl]; exact h1
theorem cal.mono {P : Cl} {m' c : Nat} {as : List Value} {s : St} {Q Q' : Option Value → St → Prop} (h : cal P m' c as s Q) (hq : ∀ v s', Q v s' → Q' v s') : cal P m' c as s Q' := by
  obtain ⟨f, v, s', h1, h2⟩ := h; exact ⟨f, v, s', h1, hq _ _ h2⟩
theorem calI.mono {P : Cl} {m' c : Nat} {as : List Value} {s : St} {Q Q' : Int32 → St → Prop} (h : calI P m' c as s Q) (hq : ∀ v s', Q v s' → Q' v s') : calI P m' c as s Q' := cal.mono h fun _ _ ⟨v, e, q⟩ => ⟨v, e, hq _ _ q⟩
theorem calL.mono {P : Cl} {m' c : Nat} {as : List Value} {s : St} {Q Q' : Int64 → St → Prop} (h : calL P m' c as s Q) (hq : ∀ v s', Q v s' → Q' v s') : calL P m' c as s Q' := cal.mono h fun _ _ ⟨v, e, q⟩ => ⟨v, e, hq _ _ q⟩
theorem calV.mono {P : Cl} {m' c : Nat} {as : List Value} {s : St} {Q Q' : St → Prop} (h : calV P m' c as s Q) (hq : ∀ s', Q s' → Q' s') : calV P m' c as s Q' := cal.mono h fun _ _ ⟨e, q⟩ => ⟨e, hq _ q⟩
theorem wpc.mono {P : Cl} {mi : Nat} {me : Me} {c pc : Nat} {ls : Lv} {st : List Value} {s : St} {Q Q' : Option Value → St → Prop} (h : wpc P mi me c pc ls st s Q) (hq : ∀ v s', Q v s' → Q' v s') : wpc P mi me c pc ls st s Q' := by
  obtain ⟨f, v, s', h1, h2⟩ := h; exact ⟨f, v, s', h1, hq _ _ h2⟩
theorem wpc_callI {P : Cl} {mi : Nat} {me me' : Me} {c pc x m' : Nat} {ls : Lv} {st r as : List Value} {s : St} {Q : Option Value → St → Prop} {n : Nat} (hf : fetch me.cd pc = some (.invokevirtual x, n)) (hm : asc P.mx x = some m') (hme : asc P.ms m' = some me') (hst : st.drop me'.na = .ref 0 :: r) (has : (st.take me'.na).reverse = as)
    (hg : m' ≠ 0 ∧ me'.rf + 1 ≤ me.rf ∧ cats r + (me'.ml + 11) + me'.rl ≤ me.rl ∧ nd (st.take me'.na) = true)
    (hq : calI P m' c (.ref 0 :: as) s fun v s' => wpc P mi me c (pc + 3) ls (.int v :: r) s' Q) : wpc P mi me c pc ls st s Q :=
  wpc_call hf hm hme hst has hg (cal.mono hq fun _ _ ⟨v, e, q⟩ => by subst e; exact q)
theorem wpc_callL {P : Cl} {mi : Nat} {me me' : Me} {c pc x m' : Nat} {ls : Lv} {st r as : List Value} {s : St} {Q : Option Value → St → Prop} {n : Nat} (hf : fetch me.cd pc = some (.invokevirtual x, n)) (hm : asc P.mx x = some m') (hme : asc P.ms m' = some me') (hst : st.drop me'.na = .ref 0 :: r) (has : (st.take me'.na).reverse = as)
    (hg : m' ≠ 0 ∧ me'.rf + 1 ≤ me.rf ∧ cats r + (me'.ml + 11) + me'.rl ≤ me.rl ∧ nd (st.take me'.na) = true)
    (hq : calL P m' c (.ref 0 :: as) s fun v s' => wpc P mi me c (pc + 3) ls (.long v :: r) s' Q) : wpc P mi me c pc ls st s Q :=
  wpc_call hf hm hme hst has hg (cal.mono hq fun _ _ ⟨v, e, q⟩ => by subst e; exact q)
theorem wpc_callV {P : Cl} {mi : Nat} {me me' : Me} {c pc x m' : Nat} {ls : Lv} {st r as : List Value} {s : St} {Q : Option Value → St → Prop} {n : Nat} (hf : fetch me.cd pc = some (.invokevirtual x, n)) (hm : asc P.mx x = some m') (hme : asc P.ms m' = some me') (hst : st.drop me'.na = .ref 0 :: r) (has : (st.take me'.na).reverse = as)
    (hg : m' ≠ 0 ∧ me'.rf + 1 ≤ me.rf ∧ cats r + (me'.ml + 11) + me'.rl ≤ me.rl ∧ nd (st.take me'.na) = true)
    (hq : calV P m' c (.ref 0 :: as) s fun s' => wpc P mi me c (pc + 3) ls r s' Q) : wpc P mi me c pc ls st s Q :=
  wpc_call hf hm hme hst has hg (cal.mono hq fun _ _ ⟨e, q⟩ => by subst e; exact q)
/-- both roads of a value -/
theorem wp_val {p : Prop} [Decidable p] {α : Sort _} {F : α → Prop} {x y : α} (h : F (if p then x else y)) : (p → F x) ∧ (¬ p → F y) := ⟨fun q => by rw [if_pos q] at h; exact h, fun q => by rw [if_neg q] at h; exact h⟩
end Jvm.LM

namespace Jvm.LM
open Sem ClassFile Op Lib Jvm.Stand Jvm.Free Jvm.LawKit Jvm.RoadKit
/-! variables that are not read any more -/
def lle (a b : Lv) : Prop := a.length = b.length ∧ ∀ (k : Nat) (v : Value), a[k]? = some (some v) → b[k]? = some (some v)
def lle' : Lv → Lv → Prop
  | [], [] => True
  | none :: a, _ :: b => lle' a b
  | some v :: a, w :: b => w = some v ∧ lle' a b
  | _, _ => False
theorem lle_of {a b : Lv} (h : lle' a b) : lle a b := by
  induction a generalizing b with
  | nil => cases b with
    | nil => exact ⟨rfl, fun k v hk => hk⟩
    | cons y b => cases h
  | cons x a ih =>
    cases b with
    | nil => cases x <;> cases h
    | cons y b =>
      cases x with
      | none =>
        obtain ⟨h1, h2⟩ := ih (b := b) h
        refine ⟨by simp [h1], fun k v hk => ?_⟩
        cases k with
        | zero => simp at hk
        | succ k => simp at hk ⊢; exact h2 k v hk
      | some x =>
        obtain ⟨e, h⟩ := h
        obtain ⟨h1, h2⟩ := ih (b := b) h
        subst e
        refine ⟨by simp [h1], fun k v hk => ?_⟩
        cases k with
        | zero => exact hk
        | succ k => simp at hk ⊢; exact h2 k v hk
theorem clr_lle {a b : Lv} (h : lle a b) (i : Nat) : (clr a i).length = (clr b i).length ∧ ∀ k v, k ≠ i → (clr a i)[k]? = some (some v) → (clr b i)[k]? = some (some v) := by
  refine ⟨by rw [clr_len, clr_len]; exact h.1, fun k v hk hv => ?_⟩
  obtain ⟨q1, q2⟩ := clr_get hv
  have q3 := h.2 _ _ q1
  cases i with
  | zero => exact q3
  | succ j =>
    simp only [clr]
    split
    · rename_i x e
      rw [List.getElem?_set]
      split
      · rename_i e2; subst e2
        rw [q3] at e; cases e
        exact absurd rfl (q2 rfl)
      · exact q3
    · rename_i x e
      rw [List.getElem?_set]
      split
      · rename_i e2; subst e2
        rw [q3] at e; cases e
        exact absurd rfl (q2 rfl)
      · exact q3
    · exact q3
theorem stl_lle {a b a' : Lv} (h : lle a b) {i : Nat} {v : Value} (hs : stl a i v = some a') : ∃ b', stl b i v = some b' ∧ lle a' b' := by
  obtain ⟨c1, c2⟩ := clr_lle h i
  have hl := h.1
  have one : ∀ w : Value, ∀ k u, ((clr a i).set i (some w))[k]? = some (some u) → ((clr b i).set i (some w))[k]? = some (some u) := fun w k u hk => by
    rw [List.getElem?_set] at hk ⊢
    split
    · rename_i e; rw [if_pos e] at hk; rw [← c1]; exact hk
    · rename_i e; rw [if_neg e] at hk; exact c2 k u (fun q => e q.symm) hk
  unfold stl at hs ⊢
  split at hs
  · rename_i x
    split at hs
    · rename_i q
      cases hs
      refine ⟨((clr b i).set i (some (.long x))).set (i + 1) none, if_pos (by rw [← hl]; exact q), by simp [c1], fun k u hk => ?_⟩
      rw [List.getElem?_set] at hk ⊢
      split
      · rename_i e; rw [if_pos e] at hk; split at hk <;> simp at hk
      · rename_i e; rw [if_neg e] at hk; exact one _ k u hk
    · cases hs
  · split at hs
    · rename_i q
      cases hs
      exact ⟨(clr b i).set i (some v), if_pos (by rw [← hl]; exact q), by simp [c1], fun k u hk => one _ k u hk⟩
    · cases hs
theorem pstep_lle {i : Instr} {pc pc' : Nat} {ls l1 ls' : Lv} {st st' : List Value} (h : pstep i pc ls st = some (pc', l1, st')) (hl : lle ls ls') : ∃ l1', pstep i pc ls' st = some (pc', l1', st') ∧ lle l1 l1' := by
  unfold pstep at h ⊢
  split at h
  all_goals (try dsimp only)
  iterate 6
    · split at h
      · rename_i e; cases h; rw [hl.2 _ _ e]; exact ⟨_, rfl, hl⟩
      · cases h
  iterate 6
    · split at h
      · split at h
        · rename_i e; cases h
          obtain ⟨b', q1, q2⟩ := stl_lle hl e
          rw [q1]; exact ⟨_, rfl, q2⟩
        · cases h
      · cases h
  · split at h
    · rename_i e0
      split at h
      · rename_i e; cases h
        obtain ⟨b', q1, q2⟩ := stl_lle hl e
        rw [hl.2 _ _ e0]; dsimp only; rw [q1]; exact ⟨_, rfl, q2⟩
      · cases h
    · cases h
  · split at h
    · cases h; exact ⟨_, rfl, hl⟩
    · cases h
theorem cstep_lle {P : Cl} {mi : Nat} {me : Me} {rt : Option Value → St → Rs} {cl : Nat → Nat → List Value → St → Rs} {k : Nat → Nat → Lv → List Value → St → Rs} {i : Instr} {c pc : Nat} {ls ls' : Lv} {st : List Value} {s : St} {r : Option Value × St} (hl : lle ls ls')
    (hk : ∀ c pc ls ls' st s, lle ls ls' → k c pc ls st s = some r → k c pc ls' st s = some r) (h : cstep P mi me rt cl k i c pc ls st s = some r) : cstep P mi me rt cl k i c pc ls' st s = some r := by
  unfold cstep at h ⊢
  split at h
  all_goals (try dsimp only)
  · split at h
    · split at h
      · exact hk _ _ _ _ _ _ hl h
      · cases h
    · cases h
  · split at h
    · split at h
      · exact hk _ _ _ _ _ _ hl h
      · cases h
    · cases h
  iterate 6
    · split at h
      · exact hk _ _ _ _ _ _ hl h
      · cases h
  · split at h
    · rename_i q; rw [if_pos q]; exact hk _ _ _ _ _ _ hl h
    · cases h
  iterate 2
    · split at h
      · exact hk _ _ _ _ _ _ hl h
      · cases h
  · split at h
    · split at h
      · rename_i q; rw [if_pos q]; exact hk _ _ _ _ _ _ hl h
      · cases h
    · cases h
  · split at h
    · cases h
    · split at h
      · cases h
      · split at h
        · split at h
          · rename_i q
            rw [if_pos q]
            split at h
            · exact hk _ _ _ _ _ _ hl h
            · exact hk _ _ _ _ _ _ hl h
            · cases h
          · cases h
        · cases h
  · split at h
    · rename_i q; rw [if_pos q]; exact h
    · rename_i q; rw [if_neg q]
      split at h
      · rename_i e
        obtain ⟨l1', q1, q2⟩ := pstep_lle e hl
        rw [q1]; exact hk _ _ _ _ _ _ q2 h
      · cases h
theorem cexec_lle {P : Cl} : ∀ f mi me c pc ls ls' st s r, lle ls ls' → cexec P f mi me c pc ls st s = some r → cexec P f mi me c pc ls' st s = some r := by
  intro f
  induction f with
  | zero => intro mi me c pc ls ls' st s r _ h; cases h
  | succ f ih =>
    intro mi me c pc ls ls' st s r hl h
    rw [cexec] at h ⊢
    split at h
    · cases h
    · exact cstep_lle hl (fun c pc ls ls' st s hl h => ih _ _ _ _ _ _ _ _ _ hl h) h
theorem wpc_lle {P : Cl} {mi : Nat} {me : Me} {c pc : Nat} {ls ls' : Lv} {st : List Value} {s : St} {Q : Option Value → St → Prop} (hl : lle' ls ls') (h : wpc P mi me c pc ls st s Q) : wpc P mi me c pc ls' st s Q := by
  obtain ⟨f, v, s', h1, h2⟩ := h; exact ⟨f, v, s', cexec_lle _ _ _ _ _ _ _ _ _ _ (lle_of hl) h1, h2⟩
end Jvm.LM

namespace Jvm.LM
open Sem ClassFile Op Lib Jvm.Stand Jvm.Free Jvm.LawKit Jvm.RoadKit
theorem lstep_mono {α : Type} {P : Cl} {Q : Lw} {sc : Sc} {mi : Nat} {me : Me} {rt : Option Value → Wd → Option α} {cc cc' : Nat → Nat → List Value → St → Rs} {cl cl' : Nat → List Value → Wd → Rw} {k k' : Nat → Lv → List Value → Wd → Option α} {i : Instr} {pc : Nat} {ls : Lv} {st : List Value} {w : Wd} {r : α}
    (hcc : ∀ m c as s r, cc m c as s = some r → cc' m c as s = some r) (hcl : ∀ m as s r, cl m as s = some r → cl' m as s = some r) (hk : ∀ pc ls st s r, k pc ls st s = some r → k' pc ls st s = some r) (h : lstep P Q sc mi me rt cc cl k i pc ls st w = some r) : lstep P Q sc mi me rt cc' cl' k' i pc ls st w = some r := by
  unfold lstep at h ⊢
  split at h
  all_goals (try dsimp only)
  · split at h
    · split at h
      · rename_i q; rw [if_pos q]; exact hk _ _ _ _ _ h
      · cases h
    · cases h
  · split at h
    · exact hk _ _ _ _ _ h
    · cases h
  · split at h
    · exact hk _ _ _ _ _ h
    · cases h
  · split at h
    · exact hk _ _ _ _ _ h
    · cases h
  · split at h
    · rename_i q; rw [if_pos q]; exact hk _ _ _ _ _ h
    · cases h
  · split at h
    · cases h
    · split at h
      · split at h
        · rename_i q
          rw [if_pos q]
          split at h
          · rename_i s1 hc; rw [hcc _ _ _ _ _ hc]; exact hk _ _ _ _ _ h
          · cases h
        · cases h
      · cases h
  · split at h
    · cases h
    · split at h
      · cases h
      · split at h
        · split at h
          · rename_i q
            rw [if_pos q]
            split at h
            · rename_i s1 hc; rw [hcc _ _ _ _ _ hc]; exact hk _ _ _ _ _ h
            · rename_i v1 s1 hc; rw [hcc _ _ _ _ _ hc]; exact hk _ _ _ _ _ h
            · cases h
          · cases h
        · cases h
  · split at h
    · cases h
    · split at h
      · cases h
      · split at h
        · rename_i q
          rw [if_pos q]
          split at h
          · rename_i s1 hc; rw [hcl _ _ _ _ hc]; exact hk _ _ _ _ _ h
          · rename_i v1 s1 hc; rw [hcl _ _ _ _ hc]; exact hk _ _ _ _ _ h
          · cases h
        · cases h
  · split at h
    · rename_i q; rw [if_pos q]; exact h
    · rename_i q; rw [if_neg q]
      split at h
      · exact hk _ _ _ _ _ h
      · cases h
theorem lexec_succ {P : Cl} {Q : Lw} {sc : Sc} : ∀ f mi me pc ls st w r, lexec P Q sc f mi me pc ls st w = some r → lexec P Q sc (f + 1) mi me pc ls st w = some r := by
  intro f
  induction f with
  | zero => intro mi me pc ls st s r h; cases h
  | succ f ih =>
    intro mi me pc ls st s r h
    rw [lexec] at h ⊢
    split at h
    · cases h
    · refine lstep_mono (fun m c as s r h => ccall_le (Nat.le_succ _) h) (fun m as s r h => ?_) (fun pc ls st s r h => ih _ _ _ _ _ _ _ h) h
      split at h
      · split at h
        · rename_i q; rw [if_pos q]; exact ih _ _ _ _ _ _ _ h
        · cases h
      · cases h
theorem lexec_le {P : Cl} {Q : Lw} {sc : Sc} {f g mi : Nat} {me : Me} {pc : Nat} {ls : Lv} {st : List Value} {w : Wd} {r : Option Value × Wd} (hfg : f ≤ g) (h : lexec P Q sc f mi me pc ls st w = some r) : lexec P Q sc g mi me pc ls st w = some r := by
  obtain ⟨d, rfl⟩ := Nat.le.dest hfg
  induction d with
  | zero => exact h
  | succ d ih => exact lexec_succ _ _ _ _ _ _ _ _ (ih (Nat.le_add_right _ _))
theorem lcall_le {P : Cl} {Q : Lw} {sc : Sc} {f g m' : Nat} {as : List Value} {w : Wd} {r : Option Value × Wd} (hfg : f ≤ g) (h : lcall P Q sc f m' as w = some r) : lcall P Q sc g m' as w = some r := by
  unfold lcall at h ⊢
  split at h
  · split at h
    · rename_i q; rw [if_pos q]; exact lexec_le hfg h
    · cases h
  · cases h
def wpl (P : Cl) (Q : Lw) (sc : Sc) (mi : Nat) (me : Me) (pc : Nat) (ls : Lv) (st : List Value) (w : Wd) (R : Option Value → Wd → Prop) : Prop := ∃ f v w', lexec P Q sc f mi me pc ls st w = some (v, w') ∧ R v w'
def lal (P : Cl) (Q : Lw) (sc : Sc) (m' : Nat) (as : List Value) (w : Wd) (R : Option Value → Wd → Prop) : Prop := ∃ f v w', lcall P Q sc f m' as w = some (v, w') ∧ R v w'
def lalI (P : Cl) (Q : Lw) (sc : Sc) (m' : Nat) (as : List Value) (w : Wd) (R : Int32 → Wd → Prop) : Prop := lal P Q sc m' as w fun r w' => ∃ v, r = some (.int v) ∧ R v w'
def lalL (P : Cl) (Q : Lw) (sc : Sc) (m' : Nat) (as : List Value) (w : Wd) (R : Int64 → Wd → Prop) : Prop := lal P Q sc m' as w fun r w' => ∃ v, r = some (.long v) ∧ R v w'
def lalV (P : Cl) (Q : Lw) (sc : Sc) (m' : Nat) (as : List Value) (w : Wd) (R : Wd → Prop) : Prop := lal P Q sc m' as w fun r w' => r = none ∧ R w'
theorem lal.mono {P : Cl} {Q : Lw} {sc : Sc} {m' : Nat} {as : List Value} {w : Wd} {R R' : Option Value → Wd → Prop} (h : lal P Q sc m' as w R) (hq : ∀ v s', R v s' → R' v s') : lal P Q sc m' as w R' := by
  obtain ⟨f, v, s', h1, h2⟩ := h; exact ⟨f, v, s', h1, hq _ _ h2⟩
theorem lalI.mono {P : Cl} {Q : Lw} {sc : Sc} {m' : Nat} {as : List Value} {w : Wd} {R R' : Int32 → Wd → Prop} (h : lalI P Q sc m' as w R) (hq : ∀ v s', R v s' → R' v s') : lalI P Q sc m' as w R' := lal.mono h fun _ _ ⟨v, e, q⟩ => ⟨v, e, hq _ _ q⟩
theorem lalL.mono {P : Cl} {Q : Lw} {sc : Sc} {m' : Nat} {as : List Value} {w : Wd} {R R' : Int64 → Wd → Prop} (h : lalL P Q sc m' as w R) (hq : ∀ v s', R v s' → R' v s') : lalL P Q sc m' as w R' := lal.mono h fun _ _ ⟨v, e, q⟩ => ⟨v, e, hq _ _ q⟩
theorem lalV.mono {P : Cl} {Q : Lw} {sc : Sc} {m' : Nat} {as : List Value} {w : Wd} {R R' : Wd → Prop} (h : lalV P Q sc m' as w R) (hq : ∀ s', R s' → R' s') : lalV P Q sc m' as w R' := lal.mono h fun _ _ ⟨e, q⟩ => ⟨e, hq _ q⟩
theorem wpl.mono {P : Cl} {Q : Lw} {sc : Sc} {mi : Nat} {me : Me} {pc : Nat} {ls : Lv} {st : List Value} {w : Wd} {R R' : Option Value → Wd → Prop} (h : wpl P Q sc mi me pc ls st w R) (hq : ∀ v s', R v s' → R' v s') : wpl P Q sc mi me pc ls st w R' := by
  obtain ⟨f, v, s', h1, h2⟩ := h; exact ⟨f, v, s', h1, hq _ _ h2⟩
theorem wpl_one {P : Cl} {Q : Lw} {sc : Sc} {mi : Nat} {me : Me} {pc pc' : Nat} {ls ls' : Lv} {st st' : List Value} {w w' : Wd} {R : Option Value → Wd → Prop} {i : Instr} {n : Nat} (hf : fetch me.cd pc = some (i, n))
    (h : ∀ (rt : Option Value → Wd → Rw) cc cl (k : Nat → Lv → List Value → Wd → Rw), lstep P Q sc mi me rt cc cl k i pc ls st w = k pc' ls' st' w') (hq : wpl P Q sc mi me pc' ls' st' w' R) : wpl P Q sc mi me pc ls st w R := by
  obtain ⟨f, v, s2, h1, h2⟩ := hq
  refine ⟨f + 1, v, s2, ?_, h2⟩
  rw [lexec, hf]; dsimp only; rw [h]; exact h1
/-- plain steps: nothing of the heap, no call -/
def isPl : Instr → Bool
  | .iaload => false | .arraylength => false | .ldc _ => false | .ldc2_w _ => false | .new _ => false | .invokespecial _ => false | .invokevirtual _ => false | .invokestatic _ => false
  | .ireturn => false | .lreturn => false | .return_ => false
  | _ => true
theorem lstep_pl {α : Type} {P : Cl} {Q : Lw} {sc : Sc} {mi : Nat} {me : Me} {rt : Option Value → Wd → Option α} {cc : Nat → Nat → List Value → St → Rs} {cl : Nat → List Value → Wd → Rw} {k : Nat → Lv → List Value → Wd → Option α} {i : Instr} {pc : Nat} {ls : Lv} {st : List Value} {w : Wd} (hi : isPl i = true) :
    lstep P Q sc mi me rt cc cl k i pc ls st w = match pstep i pc ls st with | some (pc', ls', st') => k pc' ls' st' w | none => none := by
  cases i <;> first | (cases hi; done) | rfl
def psl (kx : List (Nat × Value)) (cd : Cd) : Nat → Nat → Lv → List Value → Option (Nat × Lv × List Value)
  | 0, pc, ls, st => some (pc, ls, st)
  | n + 1, pc, ls, st => match fetch cd pc with
    | none => none
    | some (i, _) => match i with
      | .ldc x => (match asc kx x with | some (.int z) => psl kx cd n (pc + 2) ls (.int z :: st) | _ => none)
      | .ldc2_w x => (match asc kx x with | some (.long z) => psl kx cd n (pc + 3) ls (.long z :: st) | _ => none)
      | i => if isPl i = true then (match pstep i pc ls st with | some (pc', ls', st') => psl kx cd n pc' ls' st' | none => none) else none
theorem wpl_sl {P : Cl} {Q : Lw} {sc : Sc} {mi : Nat} {me : Me} {w : Wd} {R : Option Value → Wd → Prop} : ∀ {n pc pc' : Nat} {ls ls' : Lv} {st st' : List Value}, psl Q.kx me.cd n pc ls st = some (pc', ls', st') → wpl P Q sc mi me pc' ls' st' w R → wpl P Q sc mi me pc ls st w R := by
  intro n
  induction n with
  | zero => intro pc pc' ls ls' st st' h hq; cases h; exact hq
  | succ n ih =>
    intro pc pc' ls ls' st st' h hq
    simp only [psl] at h
    split at h
    · cases h
    · rename_i i m hf
      split at h
      · split at h
        · rename_i z e
          exact wpl_one hf (fun rt cc cl k => by simp only [lstep, e]) (ih h hq)
        · cases h
      · split at h
        · rename_i z e
          exact wpl_one hf (fun rt cc cl k => by simp only [lstep, e]) (ih h hq)
        · cases h
      · split at h
        · rename_i hi
          split at h
          · rename_i pc1 ls1 st1 e
            exact wpl_one hf (fun rt cc cl k => by rw [lstep_pl hi, e]) (ih h hq)
          · cases h
        · cases h
theorem wpl_ret {P : Cl} {Q : Lw} {sc : Sc} {mi : Nat} {me : Me} {pc : Nat} {ls : Lv} {st : List Value} {w : Wd} {R : Option Value → Wd → Prop} {i : Instr} {n : Nat} {v : Option Value} (hf : fetch me.cd pc = some (i, n)) (hr : isRet i = true) (h : cret me st i = some v) (hq : R v w) : wpl P Q sc mi me pc ls st w R := by
  refine ⟨1, v, w, ?_, hq⟩
  rw [lexec, hf]; dsimp only
  cases i <;> first | (cases hr; done) | (simp only [lstep]; rw [if_pos hr, h])
theorem wpl_if {P : Cl} {Q : Lw} {sc : Sc} {mi : Nat} {me : Me} {pc a b : Nat} {ls : Lv} {r : List Value} {w : Wd} {R : Option Value → Wd → Prop} {cd : ClassFile.Cond} {o : Int} {n : Nat} {x : Int32} (hf : fetch me.cd pc = some (.ifCond cd o, n)) (ho : 0 ≤ (pc : Int) + o) (ha : jmp pc o = a) (hb : pc + 3 = b)
    (hq : wpl P Q sc mi me (br cd x 0 a b) ls r w R) : wpl P Q sc mi me pc ls (.int x :: r) w R := by
  subst ha hb
  refine wpl_one hf (fun rt cc cl k => ?_) hq
  rw [lstep_pl rfl]
  simp only [pstep, qstep]; rw [if_pos ho]
theorem wpl_icmp {P : Cl} {Q : Lw} {sc : Sc} {mi : Nat} {me : Me} {pc a b : Nat} {ls : Lv} {r : List Value} {w : Wd} {R : Option Value → Wd → Prop} {cd : ClassFile.Cond} {o : Int} {n : Nat} {x y : Int32} (hf : fetch me.cd pc = some (.if_icmp cd o, n)) (ho : 0 ≤ (pc : Int) + o) (ha : jmp pc o = a) (hb : pc + 3 = b)
    (hq : wpl P Q sc mi me (br cd x y a b) ls r w R) : wpl P Q sc mi me pc ls (.int y :: .int x :: r) w R := by
  subst ha hb
  refine wpl_one hf (fun rt cc cl k => ?_) hq
  rw [lstep_pl rfl]
  simp only [pstep, qstep]; rw [if_pos ho]
theorem wpl_br {P : Cl} {Q : Lw} {sc : Sc} {mi : Nat} {me : Me} {a b : Nat} {ls : Lv} {st : List Value} {w : Wd} {R : Option Value → Wd → Prop} {p : Prop} [Decidable p] (h : (p → wpl P Q sc mi me a ls st w R) ∧ (¬ p → wpl P Q sc mi me b ls st w R)) : wpl P Q sc mi me (if p then a else b) ls st w R := by
  by_cases hp : p
  · rw [if_pos hp]; exact h.1 hp
  · rw [if_neg hp]; exact h.2 hp
theorem wpl_lda {P : Cl} {Q : Lw} {N : Nat} {g : Nat → Int32} {mi : Nat} {me : Me} {pc : Nat} {ls : Lv} {r : List Value} {w : Wd} {R : Option Value → Wd → Prop} {n : Nat} {j : Int32} (hf : fetch me.cd pc = some (.iaload, n)) (hj : inb N j) (hq : wpl P Q (some (N, g)) mi me (pc + 1) ls (.int (g (ix j)) :: r) w R) : wpl P Q (some (N, g)) mi me pc ls (.int j :: .ref 0 :: r) w R := by
  refine wpl_one hf (fun rt cc cl k => ?_) hq
  simp only [lstep]; rw [if_pos hj]
theorem wpl_len {P : Cl} {Q : Lw} {N : Nat} {g : Nat → Int32} {mi : Nat} {me : Me} {pc : Nat} {ls : Lv} {r : List Value} {w : Wd} {R : Option Value → Wd → Prop} {n : Nat} (hf : fetch me.cd pc = some (.arraylength, n)) (hq : wpl P Q (some (N, g)) mi me (pc + 1) ls (.int (Int32.ofNat N) :: r) w R) : wpl P Q (some (N, g)) mi me pc ls (.ref 0 :: r) w R := by
  refine wpl_one hf (fun rt cc cl k => ?_) hq
  simp only [lstep]
theorem wpl_new {P : Cl} {Q : Lw} {sc : Sc} {me : Me} {pc cnt : Nat} {ls : Lv} {st : List Value} {os : Nat → St} {R : Option Value → Wd → Prop} {n x : Nat} (hf : fetch me.cd pc = some (.new x, n)) (hx : x = Q.cx) (h1 : (cnt + 1) * (P.al.length + 1) ≤ Q.rc) (h2 : (cnt + 1) * (Q.nf + zs P.al P.al.length) ≤ Q.rs)
    (hq : wpl P Q sc 0 me (pc + 3) ls (.ref (cnt + 1) :: st) (uo os cnt s0, cnt, true) R) : wpl P Q sc 0 me pc ls st (os, cnt, false) R := by
  refine wpl_one hf (fun rt cc cl k => ?_) hq
  simp only [lstep]; rw [if_pos ⟨trivial, hx, trivial, h1, h2⟩]
theorem wpl_ctor {P : Cl} {Q : Lw} {sc : Sc} {me me' : Me} {pc cnt : Nat} {ls : Lv} {st r as : List Value} {os : Nat → St} {R : Option Value → Wd → Prop} {n x : Nat} (hf : fetch me.cd pc = some (.invokespecial x, n)) (hx : x = Q.ci) (hme : asc P.ms 0 = some me') (hst : st.drop me'.na = .ref (cnt + 1) :: r) (has : (st.take me'.na).reverse = as)
    (hg : me'.rf + 1 ≤ me.rf ∧ cats r + (me'.ml + 11) + me'.rl ≤ me.rl ∧ nr (st.take me'.na) = true ∧ (cnt + 1) * (P.al.length + 1) ≤ Q.rc ∧ (cnt + 1) * (Q.nf + zs P.al P.al.length) ≤ Q.rs)
    (hq : calV P 0 0 (.ref 0 :: as) (os cnt) fun s' => wpl P Q sc 0 me (pc + 3) ls r (uo os cnt s', cnt + 1, false) R) : wpl P Q sc 0 me pc ls st (os, cnt, true) R := by
  subst has
  obtain ⟨f1, v, s1, h1, rfl, f2, v2, s2, h2, h3⟩ := hq
  refine ⟨max f1 f2 + 1, v2, s2, ?_, h3⟩
  have h1' := ccall_le (Nat.le_max_left f1 f2) h1
  have h2' := lexec_le (Nat.le_max_right f1 f2) h2
  rw [lexec, hf]; dsimp only
  simp only [lstep, hme, hst]
  rw [if_pos ⟨hx, trivial, trivial, trivial, hg⟩, h1']
  exact h2'
theorem wpl_call {P : Cl} {Q : Lw} {sc : Sc} {mi : Nat} {me me' : Me} {pc x m' o : Nat} {ls : Lv} {st r as : List Value} {w : Wd} {R : Option Value → Wd → Prop} {n : Nat} (hf : fetch me.cd pc = some (.invokevirtual x, n)) (hm : asc Q.vx x = some m') (hme : asc P.ms m' = some me') (hst : st.drop me'.na = .ref (o + 1) :: r) (has : (st.take me'.na).reverse = as)
    (hg : m' ≠ 0 ∧ o < w.2.1 ∧ me'.rf + 1 ≤ me.rf ∧ cats r + (me'.ml + 11) + me'.rl ≤ me.rl ∧ nr (st.take me'.na) = true)
    (hq : cal P m' P.al.length (.ref 0 :: as) (w.1 o) fun v s' => wpl P Q sc mi me (pc + 3) ls (v.toList ++ r) (uo w.1 o s', w.2.1, w.2.2) R) : wpl P Q sc mi me pc ls st w R := by
  subst has
  obtain ⟨f1, v, s1, h1, f2, v2, s2, h2, h3⟩ := hq
  refine ⟨max f1 f2 + 1, v2, s2, ?_, h3⟩
  have h1' := ccall_le (Nat.le_max_left f1 f2) h1
  have h2' := lexec_le (Nat.le_max_right f1 f2) h2
  rw [lexec, hf]; dsimp only
  simp only [lstep, hm, hme, hst]
  rw [if_pos hg, h1']
  cases v <;> exact h2'
theorem wpl_stat {P : Cl} {Q : Lw} {sc : Sc} {mi : Nat} {me me' : Me} {pc x m' : Nat} {ls : Lv} {st r as : List Value} {w : Wd} {R : Option Value → Wd → Prop} {n : Nat} (hf : fetch me.cd pc = some (.invokestatic x, n)) (hm : asc Q.sx x = some m') (hme : asc Q.ms m' = some me') (hst : st.drop me'.na = r) (has : (st.take me'.na).reverse = as)
    (hg : m' ≠ 0 ∧ me'.na ≤ st.length ∧ me'.rf + 1 ≤ me.rf ∧ cats r + (me'.ml + 11) + me'.rl ≤ me.rl ∧ nd (st.take me'.na) = true)
    (hq : lal P Q sc m' as w fun v w' => wpl P Q sc mi me (pc + 3) ls (v.toList ++ r) w' R) : wpl P Q sc mi me pc ls st w R := by
  subst has hst
  obtain ⟨f1, v, s1, h1, f2, v2, s2, h2, h3⟩ := hq
  refine ⟨max f1 f2 + 1, v2, s2, ?_, h3⟩
  have h1' := lcall_le (Nat.le_max_left f1 f2) h1
  have h2' := lexec_le (Nat.le_max_right f1 f2) h2
  rw [lexec, hf]; dsimp only
  simp only [lstep, hm, hme]
  rw [if_pos hg]
  simp only [lcall, hme] at h1'
  rw [h1']
  cases v <;> exact h2'
theorem lal_of {P : Cl} {Q : Lw} {sc : Sc} {m' : Nat} {as : List Value} {w : Wd} {R : Option Value → Wd → Prop} {me : Me} {ls : Lv} (hme : asc Q.ms m' = some me) (hl : (layA as).length ≤ me.ml) (hls : lay as me.ml = ls) (h : wpl P Q sc m' me 0 ls [] w R) : lal P Q sc m' as w R := by
  subst hls
  obtain ⟨f, v, s', h1, h2⟩ := h
  refine ⟨f, v, s', ?_, h2⟩
  simp only [lcall, hme]; rw [if_pos hl]; exact h1
theorem lstep_lle {P : Cl} {Q : Lw} {sc : Sc} {mi : Nat} {me : Me} {rt : Option Value → Wd → Rw} {cc : Nat → Nat → List Value → St → Rs} {cl : Nat → List Value → Wd → Rw} {k : Nat → Lv → List Value → Wd → Rw} {i : Instr} {pc : Nat} {ls ls' : Lv} {st : List Value} {w : Wd} {r : Option Value × Wd} (hl : lle ls ls')
    (hk : ∀ pc ls ls' st s, lle ls ls' → k pc ls st s = some r → k pc ls' st s = some r) (h : lstep P Q sc mi me rt cc cl k i pc ls st w = some r) : lstep P Q sc mi me rt cc cl k i pc ls' st w = some r := by
  unfold lstep at h ⊢
  split at h
  all_goals (try dsimp only)
  · split at h
    · split at h
      · rename_i q; rw [if_pos q]; exact hk _ _ _ _ _ hl h
      · cases h
    · cases h
  iterate 3
    · split at h
      · exact hk _ _ _ _ _ hl h
      · cases h
  · split at h
    · rename_i q; rw [if_pos q]; exact hk _ _ _ _ _ hl h
    · cases h
  · split at h
    · cases h
    · split at h
      · split at h
        · rename_i q
          rw [if_pos q]
          split at h
          · exact hk _ _ _ _ _ hl h
          · cases h
        · cases h
      · cases h
  · split at h
    · cases h
    · split at h
      · cases h
      · split at h
        · split at h
          · rename_i q
            rw [if_pos q]
            split at h
            · exact hk _ _ _ _ _ hl h
            · exact hk _ _ _ _ _ hl h
            · cases h
          · cases h
        · cases h
  · split at h
    · cases h
    · split at h
      · cases h
      · split at h
        · rename_i q
          rw [if_pos q]
          split at h
          · exact hk _ _ _ _ _ hl h
          · exact hk _ _ _ _ _ hl h
          · cases h
        · cases h
  · split at h
    · rename_i q; rw [if_pos q]; exact h
    · rename_i q; rw [if_neg q]
      split at h
      · rename_i e
        obtain ⟨l1', q1, q2⟩ := pstep_lle e hl
        rw [q1]; exact hk _ _ _ _ _ q2 h
      · cases h
theorem lexec_lle {P : Cl} {Q : Lw} {sc : Sc} : ∀ f mi me pc ls ls' st w r, lle ls ls' → lexec P Q sc f mi me pc ls st w = some r → lexec P Q sc f mi me pc ls' st w = some r := by
  intro f
  induction f with
  | zero => intro mi me pc ls ls' st w r _ h; cases h
  | succ f ih =>
    intro mi me pc ls ls' st w r hl h
    rw [lexec] at h ⊢
    split at h
    · cases h
    · exact lstep_lle hl (fun pc ls ls' st s hl h => ih _ _ _ _ _ _ _ _ hl h) h
theorem wpl_lle {P : Cl} {Q : Lw} {sc : Sc} {mi : Nat} {me : Me} {pc : Nat} {ls ls' : Lv} {st : List Value} {w : Wd} {R : Option Value → Wd → Prop} (hl : lle' ls ls') (h : wpl P Q sc mi me pc ls st w R) : wpl P Q sc mi me pc ls' st w R := by
  obtain ⟨f, v, s', h1, h2⟩ := h; exact ⟨f, v, s', lexec_lle _ _ _ _ _ _ _ _ _ (lle_of hl) h1, h2⟩
/-! worlds of no, one and two objects -/
def W0 : Wd := (fun _ => s0, 0, false)
def W0p : Wd := (uo (fun _ => s0) 0 s0, 0, true)
def W1 (s : St) : Wd := (uo (fun _ => s0) 0 s, 1, false)
def W1p (s : St) : Wd := (uo (uo (fun _ => s0) 0 s) 1 s0, 1, true)
def W2 (s t : St) : Wd := (uo (uo (fun _ => s0) 0 s) 1 t, 2, false)
theorem uo_uo (f : Nat → St) (o : Nat) (s t : St) : uo (uo f o s) o t = uo f o t := by
  funext i; simp only [uo]; split <;> rfl
theorem uo_swap (f : Nat → St) {o o' : Nat} (h : o ≠ o') (s t : St) : uo (uo f o s) o' t = uo (uo f o' t) o s := by
  funext i; simp only [uo]
  by_cases a : i = o
  · subst a; simp [h]
  · by_cases b : i = o'
    · subst b; simp [Ne.symm h]
    · simp [a, b]
section Worlds
variable {P : Cl} {Q : Lw} {sc : Sc} {mi : Nat} {me me' : Me} {pc x m' : Nat} {ls : Lv} {st r as : List Value} {R : Option Value → Wd → Prop} {n : Nat} {s t : St}
theorem wpl_new0 (hf : fetch me.cd pc = some (.new x, n)) (hx : x = Q.cx) (h1 : 1 * (P.al.length + 1) ≤ Q.rc) (h2 : 1 * (Q.nf + zs P.al P.al.length) ≤ Q.rs) (hq : wpl P Q sc 0 me (pc + 3) ls (.ref 1 :: st) W0p R) : wpl P Q sc 0 me pc ls st W0 R := wpl_new (cnt := 0) hf hx h1 h2 hq
theorem wpl_new1 (hf : fetch me.cd pc = some (.new x, n)) (hx : x = Q.cx) (h1 : 2 * (P.al.length + 1) ≤ Q.rc) (h2 : 2 * (Q.nf + zs P.al P.al.length) ≤ Q.rs) (hq : wpl P Q sc 0 me (pc + 3) ls (.ref 2 :: st) (W1p s) R) : wpl P Q sc 0 me pc ls st (W1 s) R := wpl_new (cnt := 1) hf hx h1 h2 hq
theorem wpl_ctor0 (hf : fetch me.cd pc = some (.invokespecial x, n)) (hx : x = Q.ci) (hme : asc P.ms 0 = some me') (hst : st.drop me'.na = .ref 1 :: r) (has : (st.take me'.na).reverse = as)
    (hg : me'.rf + 1 ≤ me.rf ∧ cats r + (me'.ml + 11) + me'.rl ≤ me.rl ∧ nr (st.take me'.na) = true ∧ 1 * (P.al.length + 1) ≤ Q.rc ∧ 1 * (Q.nf + zs P.al P.al.length) ≤ Q.rs)
    (hq : calV P 0 0 (.ref 0 :: as) s0 fun s' => wpl P Q sc 0 me (pc + 3) ls r (W1 s') R) : wpl P Q sc 0 me pc ls st W0p R := by
  refine wpl_ctor (cnt := 0) hf hx hme hst has hg ?_
  refine calV.mono (show calV P 0 0 (.ref 0 :: as) (uo (fun _ => s0) 0 s0 0) _ from hq) fun s' h => ?_
  rw [uo_uo]; exact h
theorem wpl_ctor1 (hf : fetch me.cd pc = some (.invokespecial x, n)) (hx : x = Q.ci) (hme : asc P.ms 0 = some me') (hst : st.drop me'.na = .ref 2 :: r) (has : (st.take me'.na).reverse = as)
    (hg : me'.rf + 1 ≤ me.rf ∧ cats r + (me'.ml + 11) + me'.rl ≤ me.rl ∧ nr (st.take me'.na) = true ∧ 2 * (P.al.length + 1) ≤ Q.rc ∧ 2 * (Q.nf + zs P.al P.al.length) ≤ Q.rs)
    (hq : calV P 0 0 (.ref 0 :: as) s0 fun s' => wpl P Q sc 0 me (pc + 3) ls r (W2 s s') R) : wpl P Q sc 0 me pc ls st (W1p s) R := by
  refine wpl_ctor (cnt := 1) hf hx hme hst has hg ?_
  refine calV.mono (show calV P 0 0 (.ref 0 :: as) (uo (uo (fun _ => s0) 0 s) 1 s0 1) _ from hq) fun s' h => ?_
  rw [uo_uo]; exact h
theorem wpl_v1 (hf : fetch me.cd pc = some (.invokevirtual x, n)) (hm : asc Q.vx x = some m') (hme : asc P.ms m' = some me') (hst : st.drop me'.na = .ref 1 :: r) (has : (st.take me'.na).reverse = as)
    (hg : m' ≠ 0 ∧ me'.rf + 1 ≤ me.rf ∧ cats r + (me'.ml + 11) + me'.rl ≤ me.rl ∧ nr (st.take me'.na) = true)
    (hq : cal P m' P.al.length (.ref 0 :: as) s fun v s' => wpl P Q sc mi me (pc + 3) ls (v.toList ++ r) (W1 s') R) : wpl P Q sc mi me pc ls st (W1 s) R := by
  refine wpl_call (o := 0) hf hm hme hst has ⟨hg.1, by show 0 < 1; decide, hg.2⟩ ?_
  refine cal.mono (show cal P m' P.al.length (.ref 0 :: as) ((W1 s).1 0) _ from hq) fun v s' h => ?_
  show wpl P Q sc mi me (pc + 3) ls (v.toList ++ r) (uo (uo (fun _ => s0) 0 s) 0 s', 1, false) R
  rw [uo_uo]; exact h
theorem wpl_v2a (hf : fetch me.cd pc = some (.invokevirtual x, n)) (hm : asc Q.vx x = some m') (hme : asc P.ms m' = some me') (hst : st.drop me'.na = .ref 1 :: r) (has : (st.take me'.na).reverse = as)
    (hg : m' ≠ 0 ∧ me'.rf + 1 ≤ me.rf ∧ cats r + (me'.ml + 11) + me'.rl ≤ me.rl ∧ nr (st.take me'.na) = true)
    (hq : cal P m' P.al.length (.ref 0 :: as) s fun v s' => wpl P Q sc mi me (pc + 3) ls (v.toList ++ r) (W2 s' t) R) : wpl P Q sc mi me pc ls st (W2 s t) R := by
  refine wpl_call (o := 0) hf hm hme hst has ⟨hg.1, by show 0 < 2; decide, hg.2⟩ ?_
  refine cal.mono (show cal P m' P.al.length (.ref 0 :: as) ((W2 s t).1 0) _ from hq) fun v s' h => ?_
  show wpl P Q sc mi me (pc + 3) ls (v.toList ++ r) (uo (uo (uo (fun _ => s0) 0 s) 1 t) 0 s', 2, false) R
  rw [uo_swap _ (by decide), uo_uo]; exact h
theorem wpl_v2b (hf : fetch me.cd pc = some (.invokevirtual x, n)) (hm : asc Q.vx x = some m') (hme : asc P.ms m' = some me') (hst : st.drop me'.na = .ref 2 :: r) (has : (st.take me'.na).reverse = as)
    (hg : m' ≠ 0 ∧ me'.rf + 1 ≤ me.rf ∧ cats r + (me'.ml + 11) + me'.rl ≤ me.rl ∧ nr (st.take me'.na) = true)
    (hq : cal P m' P.al.length (.ref 0 :: as) t fun v s' => wpl P Q sc mi me (pc + 3) ls (v.toList ++ r) (W2 s s') R) : wpl P Q sc mi me pc ls st (W2 s t) R := by
  refine wpl_call (o := 1) hf hm hme hst has ⟨hg.1, by show 1 < 2; decide, hg.2⟩ ?_
  refine cal.mono (show cal P m' P.al.length (.ref 0 :: as) ((W2 s t).1 1) _ from hq) fun v s' h => ?_
  show wpl P Q sc mi me (pc + 3) ls (v.toList ++ r) (uo (uo (uo (fun _ => s0) 0 s) 1 t) 1 s', 2, false) R
  rw [uo_uo]; exact h
end Worlds
theorem cal_I {P : Cl} {m' c : Nat} {as : List Value} {s : St} {F : Option Value → St → Prop} (h : calI P m' c as s fun v s' => F (some (.int v)) s') : cal P m' c as s F := cal.mono h fun _ _ ⟨v, e, q⟩ => by subst e; exact q
theorem cal_L {P : Cl} {m' c : Nat} {as : List Value} {s : St} {F : Option Value → St → Prop} (h : calL P m' c as s fun v s' => F (some (.long v)) s') : cal P m' c as s F := cal.mono h fun _ _ ⟨v, e, q⟩ => by subst e; exact q
theorem cal_V {P : Cl} {m' c : Nat} {as : List Value} {s : St} {F : Option Value → St → Prop} (h : calV P m' c as s fun s' => F none s') : cal P m' c as s F := cal.mono h fun _ _ ⟨e, q⟩ => by subst e; exact q
theorem lal_I {P : Cl} {Q : Lw} {sc : Sc} {m' : Nat} {as : List Value} {w : Wd} {F : Option Value → Wd → Prop} (h : lalI P Q sc m' as w fun v w' => F (some (.int v)) w') : lal P Q sc m' as w F := lal.mono h fun _ _ ⟨v, e, q⟩ => by subst e; exact q
theorem lal_L {P : Cl} {Q : Lw} {sc : Sc} {m' : Nat} {as : List Value} {w : Wd} {F : Option Value → Wd → Prop} (h : lalL P Q sc m' as w fun v w' => F (some (.long v)) w') : lal P Q sc m' as w F := lal.mono h fun _ _ ⟨v, e, q⟩ => by subst e; exact q
theorem lal_V {P : Cl} {Q : Lw} {sc : Sc} {m' : Nat} {as : List Value} {w : Wd} {F : Option Value → Wd → Prop} (h : lalV P Q sc m' as w fun w' => F none w') : lal P Q sc m' as w F := lal.mono h fun _ _ ⟨e, q⟩ => by subst e; exact q
end Jvm.LM

namespace Jvm.LM
open Sem ClassFile Op Lib Jvm.Stand Jvm.Free Jvm.LawKit Jvm.RoadKit
/-! rules for the steps that ask something -/
abbrev wpcI (P : Cl) (mi : Nat) (me : Me) (c pc : Nat) (ls : Lv) (st : List Value) (s : St) (Q : Int32 → St → Prop) : Prop := wpc P mi me c pc ls st s fun r s' => ∃ v, r = some (.int v) ∧ Q v s'
abbrev wpcL (P : Cl) (mi : Nat) (me : Me) (c pc : Nat) (ls : Lv) (st : List Value) (s : St) (Q : Int64 → St → Prop) : Prop := wpc P mi me c pc ls st s fun r s' => ∃ v, r = some (.long v) ∧ Q v s'
abbrev wpcV (P : Cl) (mi : Nat) (me : Me) (c pc : Nat) (ls : Lv) (st : List Value) (s : St) (Q : St → Prop) : Prop := wpc P mi me c pc ls st s fun r s' => r = none ∧ Q s'
abbrev wplI (P : Cl) (Q : Lw) (sc : Sc) (mi : Nat) (me : Me) (pc : Nat) (ls : Lv) (st : List Value) (w : Wd) (R : Int32 → Wd → Prop) : Prop := wpl P Q sc mi me pc ls st w fun r w' => ∃ v, r = some (.int v) ∧ R v w'
abbrev wplL (P : Cl) (Q : Lw) (sc : Sc) (mi : Nat) (me : Me) (pc : Nat) (ls : Lv) (st : List Value) (w : Wd) (R : Int64 → Wd → Prop) : Prop := wpl P Q sc mi me pc ls st w fun r w' => ∃ v, r = some (.long v) ∧ R v w'
abbrev wplV (P : Cl) (Q : Lw) (sc : Sc) (mi : Nat) (me : Me) (pc : Nat) (ls : Lv) (st : List Value) (w : Wd) (R : Wd → Prop) : Prop := wpl P Q sc mi me pc ls st w fun r w' => r = none ∧ R w'
section C
variable {P : Cl} {mi : Nat} {me : Me} {c pc a N n : Nat} {ls : Lv} {r : List Value} {s s' : St} {Q : Option Value → St → Prop} {j : Int32}
theorem wpc_ldaI {v : Int32} (hf : fetch me.cd pc = some (.iaload, n)) (ha : P.al[a]? = some (0, N)) (hac : a < c) (hj : inb N j) (hv : gI s (a + 1) (ix j) = v) (hq : wpc P mi me c (pc + 1) ls (.int v :: r) s Q) : wpc P mi me c pc ls (.int j :: .ref (a + 1) :: r) s Q := by
  subst hv; exact wpc_lda hf (Or.inl ⟨rfl, rfl⟩) ha hac hj hq
theorem wpc_ldaZ {v : Int32} (hf : fetch me.cd pc = some (.baload, n)) (ha : P.al[a]? = some (1, N)) (hac : a < c) (hj : inb N j) (hv : gI s (a + 1) (ix j) = v) (hq : wpc P mi me c (pc + 1) ls (.int v :: r) s Q) : wpc P mi me c pc ls (.int j :: .ref (a + 1) :: r) s Q := by
  subst hv; exact wpc_lda hf (Or.inr (Or.inl ⟨rfl, rfl⟩)) ha hac hj hq
theorem wpc_ldaJ {v : Int64} (hf : fetch me.cd pc = some (.laload, n)) (ha : P.al[a]? = some (2, N)) (hac : a < c) (hj : inb N j) (hv : gL s (a + 1) (ix j) = v) (hq : wpc P mi me c (pc + 1) ls (.long v :: r) s Q) : wpc P mi me c pc ls (.int j :: .ref (a + 1) :: r) s Q := by
  subst hv; exact wpc_lda hf (Or.inr (Or.inr ⟨rfl, rfl⟩)) ha hac hj hq
theorem wpc_staI {z : Int32} (hf : fetch me.cd pc = some (.iastore, n)) (ha : P.al[a]? = some (0, N)) (hac : a < c) (hj : inb N j) (hs : sI s (a + 1) (ix j) z = s') (hq : wpc P mi me c (pc + 1) ls r s' Q) : wpc P mi me c pc ls (.int z :: .int j :: .ref (a + 1) :: r) s Q :=
  wpc_sta hf (Or.inl ⟨rfl, rfl, z, rfl, hs.symm⟩) ha hac hj hq
theorem wpc_staZ {z : Int32} (hf : fetch me.cd pc = some (.bastore, n)) (ha : P.al[a]? = some (1, N)) (hac : a < c) (hj : inb N j) (hs : sI s (a + 1) (ix j) (z &&& 1) = s') (hq : wpc P mi me c (pc + 1) ls r s' Q) : wpc P mi me c pc ls (.int z :: .int j :: .ref (a + 1) :: r) s Q :=
  wpc_sta hf (Or.inr (Or.inl ⟨rfl, rfl, z, rfl, hs.symm⟩)) ha hac hj hq
theorem wpc_staJ {z : Int64} (hf : fetch me.cd pc = some (.lastore, n)) (ha : P.al[a]? = some (2, N)) (hac : a < c) (hj : inb N j) (hs : sL s (a + 1) (ix j) z = s') (hq : wpc P mi me c (pc + 1) ls r s' Q) : wpc P mi me c pc ls (.long z :: .int j :: .ref (a + 1) :: r) s Q :=
  wpc_sta hf (Or.inr (Or.inr ⟨rfl, rfl, z, rfl, hs.symm⟩)) ha hac hj hq
theorem wpc_pl {i : Instr} {pc' : Nat} {ls' : Lv} {st st' : List Value} (hf : fetch me.cd pc = some (i, n)) (hi : ∀ (rt : Option Value → St → Rs) cl (k : Nat → Nat → Lv → List Value → St → Rs), cstep P mi me rt cl k i c pc ls st s = match pstep i pc ls st with | some (pc', ls', st') => k c pc' ls' st' s | none => none) (h : pstep i pc ls st = some (pc', ls', st')) (hq : wpc P mi me c pc' ls' st' s Q) : wpc P mi me c pc ls st s Q :=
  wpc_one hf (fun rt cl k => by rw [hi, h]) hq
theorem wpc_idiv {x y : Int32} (hf : fetch me.cd pc = some (.idiv, n)) (hy : ¬ y = 0) (hq : wpc P mi me c (pc + 1) ls (.int (x / y) :: r) s Q) : wpc P mi me c pc ls (.int y :: .int x :: r) s Q :=
  wpc_pl hf (fun _ _ _ => rfl) (by simp only [pstep, qstep]; rw [if_neg hy]) hq
theorem wpc_irem {x y : Int32} (hf : fetch me.cd pc = some (.irem, n)) (hy : ¬ y = 0) (hq : wpc P mi me c (pc + 1) ls (.int (x % y) :: r) s Q) : wpc P mi me c pc ls (.int y :: .int x :: r) s Q :=
  wpc_pl hf (fun _ _ _ => rfl) (by simp only [pstep, qstep]; rw [if_neg hy]) hq
theorem wpc_ldiv {x y : Int64} (hf : fetch me.cd pc = some (.ldiv, n)) (hy : ¬ y = 0) (hq : wpc P mi me c (pc + 1) ls (.long (x / y) :: r) s Q) : wpc P mi me c pc ls (.long y :: .long x :: r) s Q :=
  wpc_pl hf (fun _ _ _ => rfl) (by simp only [pstep, qstep]; rw [if_neg hy]) hq
end C
/-- the roads of a switch: one a value, from l on -/
def TS (x : Int32) (F : Int → Prop) : List Int → Int → Prop
  | [], _ => True
  | o :: r, l => (x.toInt = l → F o) ∧ TS x F r (l + 1)
theorem TS_at {x : Int32} {F : Int → Prop} : ∀ {os : List Int} {l : Int}, TS x F os l → l ≤ x.toInt → x.toInt < l + os.length → ∃ o, os[(x.toInt - l).toNat]? = some o ∧ F o := by
  intro os
  induction os with
  | nil => intro l _ h1 h2; simp at h2; omega
  | cons o r ih =>
    intro l h h1 h2
    by_cases e : x.toInt = l
    · exact ⟨o, by rw [e]; simp, h.1 e⟩
    · obtain ⟨o', q1, q2⟩ := ih h.2 (by omega) (by simp at h2; omega)
      refine ⟨o', ?_, q2⟩
      have : (x.toInt - l).toNat = (x.toInt - (l + 1)).toNat + 1 := by omega
      rw [this]; simpa using q1
theorem tsw_ok {x : Int32} {F : Int → Prop} {pc : Nat} {ls : Lv} {r : List Value} {d lo hi : Int} {offs : Array Int} (hd : 0 ≤ (pc : Int) + d) (ho : ∀ o ∈ offs.toList, 0 ≤ (pc : Int) + o) (hh : hi + 1 = lo + offs.toList.length)
    (h1 : TS x F offs.toList lo) (h2 : (x.toInt < lo ∨ x.toInt > hi) → F d) : ∃ o, F o ∧ pstep (.tableswitch d lo hi offs) pc ls (.int x :: r) = some (jmp pc o, ls, r) := by
  by_cases hx : x.toInt < lo ∨ x.toInt > hi
  · refine ⟨d, h2 hx, ?_⟩
    simp only [pstep, qstep]; rw [if_pos hx, if_pos hd]
  · obtain ⟨o, q1, q2⟩ := TS_at h1 (by omega) (by omega)
    have q3 : offs[(x.toInt - lo).toNat]? = some o := by rw [← Array.getElem?_toList]; exact q1
    refine ⟨o, q2, ?_⟩
    simp only [pstep, qstep]; rw [if_neg hx, q3]; dsimp only; rw [if_pos (ho o (List.mem_of_getElem? q1))]
theorem wpc_tsw {P : Cl} {mi : Nat} {me : Me} {c pc n : Nat} {ls : Lv} {r : List Value} {s : St} {Q : Option Value → St → Prop} {x : Int32} {d lo hi : Int} {offs : Array Int} (hf : fetch me.cd pc = some (.tableswitch d lo hi offs, n)) (hd : 0 ≤ (pc : Int) + d) (ho : ∀ o ∈ offs.toList, 0 ≤ (pc : Int) + o) (hh : hi + 1 = lo + offs.toList.length)
    (h1 : TS x (fun o => wpc P mi me c (jmp pc o) ls r s Q) offs.toList lo) (h2 : (x.toInt < lo ∨ x.toInt > hi) → wpc P mi me c (jmp pc d) ls r s Q) : wpc P mi me c pc ls (.int x :: r) s Q := by
  obtain ⟨o, q1, q2⟩ := tsw_ok (ls := ls) (r := r) hd ho hh h1 h2
  exact wpc_pl hf (fun _ _ _ => rfl) q2 q1
section L
variable {P : Cl} {Q : Lw} {sc : Sc} {mi : Nat} {me : Me} {pc n : Nat} {ls : Lv} {r : List Value} {w : Wd} {R : Option Value → Wd → Prop}
theorem wpl_pl {i : Instr} {pc' : Nat} {ls' : Lv} {st st' : List Value} (hf : fetch me.cd pc = some (i, n)) (hi : isPl i = true) (h : pstep i pc ls st = some (pc', ls', st')) (hq : wpl P Q sc mi me pc' ls' st' w R) : wpl P Q sc mi me pc ls st w R :=
  wpl_one hf (fun rt cc cl k => by rw [lstep_pl hi, h]) hq
theorem wpl_idiv {x y : Int32} (hf : fetch me.cd pc = some (.idiv, n)) (hy : ¬ y = 0) (hq : wpl P Q sc mi me (pc + 1) ls (.int (x / y) :: r) w R) : wpl P Q sc mi me pc ls (.int y :: .int x :: r) w R :=
  wpl_pl hf rfl (by simp only [pstep, qstep]; rw [if_neg hy]) hq
theorem wpl_irem {x y : Int32} (hf : fetch me.cd pc = some (.irem, n)) (hy : ¬ y = 0) (hq : wpl P Q sc mi me (pc + 1) ls (.int (x % y) :: r) w R) : wpl P Q sc mi me pc ls (.int y :: .int x :: r) w R :=
  wpl_pl hf rfl (by simp only [pstep, qstep]; rw [if_neg hy]) hq
theorem wpl_ldiv {x y : Int64} (hf : fetch me.cd pc = some (.ldiv, n)) (hy : ¬ y = 0) (hq : wpl P Q sc mi me (pc + 1) ls (.long (x / y) :: r) w R) : wpl P Q sc mi me pc ls (.long y :: .long x :: r) w R :=
  wpl_pl hf rfl (by simp only [pstep, qstep]; rw [if_neg hy]) hq
theorem wpl_tsw {x : Int32} {d lo hi : Int} {offs : Array Int} (hf : fetch me.cd pc = some (.tableswitch d lo hi offs, n)) (hd : 0 ≤ (pc : Int) + d) (ho : ∀ o ∈ offs.toList, 0 ≤ (pc : Int) + o) (hh : hi + 1 = lo + offs.toList.length)
    (h1 : TS x (fun o => wpl P Q sc mi me (jmp pc o) ls r w R) offs.toList lo) (h2 : (x.toInt < lo ∨ x.toInt > hi) → wpl P Q sc mi me (jmp pc d) ls r w R) : wpl P Q sc mi me pc ls (.int x :: r) w R := by
  obtain ⟨o, q1, q2⟩ := tsw_ok (ls := ls) (r := r) hd ho hh h1 h2
  exact wpl_pl hf rfl q2 q1
end L
/-! the links, by lists -/
def AllA {α : Type} (Q : Nat → α → Prop) : List (Nat × α) → Prop
  | [] => True
  | (a, b) :: r => Q a b ∧ AllA Q r
theorem asc_all {α : Type} {Q : Nat → α → Prop} {l : List (Nat × α)} (h : AllA Q l) : ∀ k v, asc l k = some v → Q k v := by
  induction l with
  | nil => intro k v e; cases e
  | cons x r ih =>
    intro k v e
    obtain ⟨a, b⟩ := x
    simp only [asc] at e
    cases q : Nat.beq a k
    · rw [q] at e; exact ih h.2 k v e
    · rw [q] at e; cases e
      obtain rfl := Nat.eq_of_beq_eq_true q
      exact h.1
def AllL (Q : Nat → Nat → Prop) : List (Nat × Nat) → Prop
  | [] => True
  | (a, b) :: r => Q a b ∧ AllL Q r
theorem lst_all {Q : Nat → Nat → Prop} {l : List (Nat × Nat)} (h : AllL Q l) : ∀ (j tt N : Nat), l[j]? = some (tt, N) → Q tt N := by
  induction l with
  | nil => intro j tt N e; simp at e
  | cons x r ih =>
    intro j tt N e
    obtain ⟨a, b⟩ := x
    cases j with
    | zero => simp at e; obtain ⟨rfl, rfl⟩ := e; exact h.1
    | succ j => simp at e; exact ih h.2 j tt N e
def dst1 (k : Nat) (fe : Fe) : List (Nat × Fe) → Bool
  | [] => true
  | (k', fe') :: r => (!(fe.1 == fe'.1)) && (decide (fe.2.2.1 < 3) || !(Nat.beq fe.2.2.1 fe'.2.2.1)) && dst1 k fe r
def dst : List (Nat × Fe) → Bool
  | [] => true
  | (k, fe) :: r => dst1 k fe r && dst r
theorem dst1_ok {k : Nat} {fe : Fe} {l : List (Nat × Fe)} (h : dst1 k fe l = true) : ∀ k' fe', asc l k' = some fe' → fe.1 ≠ fe'.1 ∧ (3 ≤ fe.2.2.1 → fe.2.2.1 ≠ fe'.2.2.1) := by
  induction l with
  | nil => intro k' fe' e; cases e
  | cons x r ih =>
    intro k' fe' e
    obtain ⟨a, b⟩ := x
    simp only [dst1, Bool.and_eq_true] at h
    obtain ⟨⟨h1, h2⟩, h3⟩ := h
    simp only [asc] at e
    cases q : Nat.beq a k'
    · rw [q] at e; exact ih h3 k' fe' e
    · rw [q] at e; cases e
      refine ⟨fun q2 => by rw [q2] at h1; simp at h1, fun q2 q3 => ?_⟩
      rw [q3] at h2 q2
      simp only [Bool.or_eq_true, decide_eq_true_eq, Bool.not_eq_true'] at h2
      rcases h2 with h2 | h2
      · omega
      · rw [Nat.beq_refl] at h2; cases h2
theorem dst_ok {l : List (Nat × Fe)} (h : dst l = true) : ∀ (k k' : Nat) (fe fe' : Fe), asc l k = some fe → asc l k' = some fe' → k ≠ k' → fe.1 ≠ fe'.1 ∧ (3 ≤ fe.2.2.1 → fe.2.2.1 ≠ fe'.2.2.1) := by
  induction l with
  | nil => intro k k' fe fe' e; cases e
  | cons x r ih =>
    intro k k' fe fe' e e' hne
    obtain ⟨a, b⟩ := x
    simp only [dst, Bool.and_eq_true] at h
    simp only [asc] at e e'
    cases q : Nat.beq a k <;> cases q' : Nat.beq a k' <;> rw [q] at e <;> rw [q'] at e'
    · exact ih h.2 k k' fe fe' e e' hne
    · cases e'
      obtain ⟨h1, h2⟩ := dst1_ok h.1 k fe e
      exact ⟨Ne.symm h1, fun z1 z2 => h2 (z2 ▸ z1) z2.symm⟩
    · cases e; exact dst1_ok h.1 k' fe' e'
    · exact absurd ((Nat.eq_of_beq_eq_true q).symm.trans (Nat.eq_of_beq_eq_true q')) hne
def chk (bytes : ByteArray) : Cd → Bool
  | [] => true
  | (pc, i, n) :: r => (match decode bytes pc with | .ok (i', n') => decide (i' = i ∧ n' = n) | .error _ => false) && (isSw i || Nat.beq n (ilen i)) && chk bytes r
theorem chk_ok {bytes : ByteArray} {cd : Cd} (h : chk bytes cd = true) : ∀ pc i n, fetch cd pc = some (i, n) → decode bytes pc = .ok (i, n) ∧ (isSw i = true ∨ n = ilen i) := by
  induction cd with
  | nil => intro pc i n e; cases e
  | cons x r ih =>
    intro pc i n e
    obtain ⟨a, i', n'⟩ := x
    simp only [chk, Bool.and_eq_true] at h
    obtain ⟨⟨h1, h2⟩, h3⟩ := h
    simp only [fetch] at e
    cases q : Nat.beq a pc
    · rw [q] at e; exact ih h3 pc i n e
    · rw [q] at e; cases e
      obtain rfl := Nat.eq_of_beq_eq_true q
      refine ⟨?_, ?_⟩
      · split at h1
        · rename_i i2 n2 hd
          obtain ⟨rfl, rfl⟩ := of_decide_eq_true h1
          exact hd
        · cases h1
      · simp only [Bool.or_eq_true] at h2
        exact h2.imp id Nat.eq_of_beq_eq_true
/-- the array that the law is handed -/
theorem script_of {s : State} {args : Array Value} {a : Addr} {cl : Cell} {t : Term} {k : Int32} (hf : Fit s) (A : Arr s s.heap a cl .int) (ev : t.eval args s none [] s = some (.ref a)) (hl : (Cond.le (Term.length t) (Term.int k)).value args s none s [] = some true) :
    (cl.slots.size < 2 ^ 31 ∧ (cl.slots.size : Int) ≤ k.toInt) ∧ SRep s s.heap a s.heap.size (some (cl.slots.size, fun i => match cl.slots[i]? with | some (.int x) => x | _ => 0)) := by
  obtain ⟨x, y, h1, h2, -⟩ := cmp_v (Or.inr (Or.inr hl))
  have hz : cl.slots.size < 2 ^ 31 := by
    have q : (Term.length t).eval args s none [] s = if cl.slots.size < 2 ^ 31 then some (.int cl.slots.size.toInt32) else none := by simp [Term.eval, ev, A.fin (Vm.Alike.refl _)]
    rw [h1] at q
    split at q
    · assumption
    · cases q
  have h1' := len_f ev (A.fin (Vm.Alike.refl _)) hz (args := args) (first := s) (o := none) (idx := [])
  have hle := gotT (Cond.le_ints h1' (Term.int_eval k)) hl
  rw [Int32.le_iff_toInt_le, len_toInt hz] at hle
  refine ⟨⟨hz, hle⟩, A.lt, cl, A, rfl, fun i hi => ?_⟩
  have e1 : cl.slots[i]? = some cl.slots[i] := Array.getElem?_eq_getElem hi
  have q := elem_fit hf A (j := i.toInt32) (idx_in hi hz)
  have e2 : i.toInt32.toNatClampNeg = i := by
    have := len_toInt (n := i) (by omega)
    simp only [Int32.toNatClampNeg, this]; rfl
  rw [e2] at q
  obtain ⟨v, hv, hfv⟩ := q
  obtain ⟨x, rfl⟩ := fit_I hfv (Or.inl rfl)
  rw [hv]
  dsimp only
  rw [hv]
end Jvm.LM
namespace Jvm.LM
theorem law_run {P : Cl} {Q : Lw} {sc : Sc} {as : List Value} (h : lalI P Q sc 0 as W0 fun v _ => v = 1) {me : Me} (hme : asc Q.ms 0 = some me) : ∃ f w', lexec P Q sc f 0 me 0 (lay as me.ml) [] W0 = some (some (.int 1), w') := by
  obtain ⟨f, v, w', h1, v', rfl, rfl⟩ := h
  refine ⟨f, w', ?_⟩
  simp only [lcall, hme] at h1
  split at h1
  · exact h1
  · cases h1
end Jvm.LM

namespace Jvm.LM
open Jvm.RoadKit
/-! numbers -/
theorem i32_add {x y : Int32} (h1 : -2147483648 ≤ x.toInt + y.toInt) (h2 : x.toInt + y.toInt < 2147483648) : (x + y).toInt = x.toInt + y.toInt := by
  have := c_iadd x y; have := rng32 (x + y); omega
theorem i32_sub {x y : Int32} (h1 : -2147483648 ≤ x.toInt - y.toInt) (h2 : x.toInt - y.toInt < 2147483648) : (x - y).toInt = x.toInt - y.toInt := by
  have := c_isub x y; have := rng32 (x - y); omega
theorem i32_mul {x y : Int32} (h1 : -2147483648 ≤ x.toInt * y.toInt) (h2 : x.toInt * y.toInt < 2147483648) : (x * y).toInt = x.toInt * y.toInt := by
  have := c_imul x y; have := rng32 (x * y); omega
theorem ix_int {i : Int32} (h : 0 ≤ i.toInt) : (ix i : Int) = i.toInt := by simp only [ix, Int32.toNatClampNeg]; omega
theorem ix_inj {i j : Int32} (hi : 0 ≤ i.toInt) (hj : 0 ≤ j.toInt) : ix i = ix j ↔ i = j := by
  have a := ix_int hi; have b := ix_int hj
  rw [← Int32.toInt_inj]; omega
theorem i32_lt {x y : Int32} : x < y ↔ x.toInt < y.toInt := Int32.lt_iff_toInt_lt
theorem i32_eq {x y : Int32} : x = y ↔ x.toInt = y.toInt := Int32.toInt_inj.symm
/-- a loop that counts up to N: from the next turn to this one -/
theorem loop_up {F : Int32 → Prop} (N : Int) (hN : N < 2147483647) (step : ∀ i, 0 ≤ i.toInt → i.toInt < N → (i + 1).toInt = i.toInt + 1 → F (i + 1) → F i) (last : ∀ i, i.toInt = N → F i) : ∀ i, 0 ≤ i.toInt → i.toInt ≤ N → F i := by
  have key : ∀ n : Nat, ∀ i : Int32, 0 ≤ i.toInt → i.toInt + n = N → F i := by
    intro n
    induction n with
    | zero => intro i h0 h1; exact last i (by omega)
    | succ n ih =>
      intro i h0 h1
      have e : (i + 1).toInt = i.toInt + 1 := i32_add (by simp; omega) (by simp; omega)
      exact step i h0 (by omega) e (ih (i + 1) (by omega) (by omega))
  intro i h0 h1
  exact key (N - i.toInt).toNat i h0 (by omega)
theorem cmpL_lt {x y : Int64} : Jvm.Free.XT.cmpL x y < 0 ↔ x < y := by
  unfold Jvm.Free.XT.cmpL; split
  · rename_i h; exact ⟨fun q => absurd q (by decide), fun q => by rw [Int64.lt_iff_toInt_lt] at h q; omega⟩
  · split
    · rename_i h; subst h; exact ⟨fun q => absurd q (by decide), fun q => by rw [Int64.lt_iff_toInt_lt] at q; omega⟩
    · rename_i h1 h2
      refine ⟨fun _ => ?_, fun _ => by decide⟩
      rw [Int64.lt_iff_toInt_lt] at h1 ⊢; rw [← Int64.toInt_inj] at h2; omega
theorem cmpL_gt {x y : Int64} : 0 < Jvm.Free.XT.cmpL x y ↔ y < x := by
  unfold Jvm.Free.XT.cmpL; split
  · rename_i h; exact ⟨fun _ => h, fun _ => by decide⟩
  · rename_i h; split
    · exact ⟨fun q => absurd q (by decide), fun q => absurd q h⟩
    · exact ⟨fun q => absurd q (by decide), fun q => absurd q h⟩
theorem cmpL_eq {x y : Int64} : Jvm.Free.XT.cmpL x y = 0 ↔ x = y := by
  unfold Jvm.Free.XT.cmpL; split
  · rename_i h; exact ⟨fun q => absurd q (by decide), fun q => by subst q; rw [Int64.lt_iff_toInt_lt] at h; omega⟩
  · split
    · rename_i h; exact ⟨fun _ => h, fun _ => rfl⟩
    · rename_i h1 h2; exact ⟨fun q => absurd q (by decide), fun q => absurd q h2⟩
end Jvm.LM

namespace Jvm.Pilot.@@N@@
open Jvm Jvm.ClassFile Sem Op Lib Jvm.Free Jvm.Stand Jvm.LawKit Jvm.RoadKit Jvm.LM Bundle Jvm.Pilot.@@N@@.Jvm.D
def cm0 : Me := ("<init>", "(III)V", 3, 0, [(0, .aload_n 0, 1), (1, .invokespecial 1, 3), (4, .aload_n 0, 1), (5, .bipush 8, 2), (7, .newarray .boolean, 2), (9, .putfield 7, 3), (12, .aload_n 0, 1), (13, .bipush 8, 2), (15, .newarray .boolean, 2), (17, .putfield 13, 3), (20, .aload_n 0, 1), (21, .sipush 128, 3), (24, .newarray .int, 2), (26, .putfield 16, 3), (29, .aload_n 0, 1), (30, .bipush 8, 2), (32, .newarray .int, 2), (34, .putfield 20, 3), (37, .aload_n 0, 1), (38, .bipush 8, 2), (40, .newarray .int, 2), (42, .putfield 23, 3), (45, .aload_n 0, 1), (46, .bipush 64, 2), (48, .newarray .boolean, 2), (50, .putfield 26, 3), (53, .aload_n 0, 1), (54, .bipush 64, 2), (56, .newarray .int, 2), (58, .putfield 29, 3), (61, .aload_n 0, 1), (62, .bipush 64, 2), (64, .newarray .boolean, 2), (66, .putfield 32, 3), (69, .aload_n 0, 1), (70, .bipush 64, 2), (72, .newarray .int, 2), (74, .putfield 35, 3), (77, .aload_n 0, 1), (78, .bipush 16, 2), (80, .newarray .int, 2), (82, .putfield 38, 3), (85, .aload_n 0, 1), (86, .bipush 16, 2), (88, .newarray .int, 2), (90, .putfield 41, 3), (93, .aload_n 0, 1), (94, .aload_n 0, 1), (95, .iload_n 1, 1), (96, .iconst 1, 1), (97, .bipush 8, 2), (99, .invokevirtual 44, 3), (102, .putfield 48, 3), (105, .aload_n 0, 1), (106, .aload_n 0, 1), (107, .iload_n 2, 1), (108, .iconst 1, 1), (109, .bipush 16, 2), (111, .invokevirtual 44, 3), (114, .putfield 52, 3), (117, .aload_n 0, 1), (118, .aload_n 0, 1), (119, .iload_n 3, 1), (120, .iconst 1, 1), (121, .iconst 4, 1), (122, .invokevirtual 44, 3), (125, .putfield 55, 3), (128, .aload_n 0, 1), (129, .iconst 0, 1), (130, .putfield 58, 3), (133, .return_, 1)], 4, 1, 16)
def cm2 : Me := ("clamp", "(III)I", 3, 1, [(0, .iload_n 1, 1), (1, .iload_n 2, 1), (2, .if_icmp .ge 5, 3), (5, .iload_n 2, 1), (6, .ireturn, 1), (7, .iload_n 1, 1), (8, .iload_n 3, 1), (9, .if_icmp .le 5, 3), (12, .iload_n 3, 1), (13, .ireturn, 1), (14, .iload_n 1, 1), (15, .ireturn, 1)], 4, 0, 0)
def cm3 : Me := ("isOpen", "(I)Z", 1, 2, [(0, .iload_n 1, 1), (1, .ifCond .lt 13, 3), (4, .iload_n 1, 1), (5, .iconst 2, 1), (6, .aload_n 0, 1), (7, .getfield 48, 3), (10, .imul, 1), (11, .if_icmp .lt 5, 3), (14, .iconst 0, 1), (15, .ireturn, 1), (16, .iload_n 1, 1), (17, .iconst 1, 1), (18, .ishr, 1), (19, .istore_n 2, 1), (20, .iload_n 1, 1), (21, .iconst 1, 1), (22, .iand, 1), (23, .ifCond .ne 10, 3), (26, .aload_n 0, 1), (27, .getfield 7, 3), (30, .iload_n 2, 1), (31, .baload, 1), (32, .ireturn, 1), (33, .aload_n 0, 1), (34, .getfield 13, 3), (37, .iload_n 2, 1), (38, .baload, 1), (39, .ireturn, 1)], 3, 0, 0)
def cm4 : Me := ("rawReady", "(I)I", 1, 1, [(0, .iload_n 1, 1), (1, .iconst 1, 1), (2, .ishr, 1), (3, .istore_n 2, 1), (4, .iconst 0, 1), (5, .istore_n 3, 1), (6, .iload_n 1, 1), (7, .iconst 1, 1), (8, .iand, 1), (9, .ifCond .ne 41, 3), (12, .aload_n 0, 1), (13, .getfield 23, 3), (16, .iload_n 2, 1), (17, .iaload, 1), (18, .ifCond .gt 12, 3), (21, .aload_n 0, 1), (22, .getfield 13, 3), (25, .iload_n 2, 1), (26, .baload, 1), (27, .ifCond .ne 7, 3), (30, .iload_n 3, 1), (31, .iconst 1, 1), (32, .ior, 1), (33, .istore_n 3, 1), (34, .aload_n 0, 1), (35, .getfield 13, 3), (38, .iload_n 2, 1), (39, .baload, 1), (40, .ifCond .ne 50, 3), (43, .iload_n 3, 1), (44, .iconst 4, 1), (45, .ior, 1), (46, .istore_n 3, 1), (47, .goto 43, 3), (50, .aload_n 0, 1), (51, .getfield 23, 3), (54, .iload_n 2, 1), (55, .iaload, 1), (56, .aload_n 0, 1), (57, .getfield 52, 3), (60, .if_icmp .lt 12, 3), (63, .aload_n 0, 1), (64, .getfield 7, 3), (67, .iload_n 2, 1), (68, .baload, 1), (69, .ifCond .ne 7, 3), (72, .iload_n 3, 1), (73, .iconst 2, 1), (74, .ior, 1), (75, .istore_n 3, 1), (76, .aload_n 0, 1), (77, .getfield 7, 3), (80, .iload_n 2, 1), (81, .baload, 1), (82, .ifCond .ne 8, 3), (85, .iload_n 3, 1), (86, .bipush 8, 2), (88, .ior, 1), (89, .istore_n 3, 1), (90, .iload_n 3, 1), (91, .ireturn, 1)], 4, 0, 0)
def cm5 : Me := ("watched", "(I)I", 1, 1, [(0, .iload_n 1, 1), (1, .iconst 3, 1), (2, .iand, 1), (3, .iconst 4, 1), (4, .ior, 1), (5, .bipush 8, 2), (7, .ior, 1), (8, .ireturn, 1)], 2, 0, 0)
def cm6 : Me := ("validQ", "(I)Z", 1, 2, [(0, .iload_n 1, 1), (1, .ifCond .lt 15, 3), (4, .iload_n 1, 1), (5, .aload_n 0, 1), (6, .getfield 55, 3), (9, .if_icmp .ge 7, 3), (12, .iconst 1, 1), (13, .goto 4, 3), (16, .iconst 0, 1), (17, .ireturn, 1)], 2, 0, 0)
def cm7 : Me := ("validWord", "(I)Z", 1, 2, [(0, .iload_n 1, 1), (1, .bipush (-52), 2), (3, .iand, 1), (4, .ifCond .ne 7, 3), (7, .iconst 1, 1), (8, .goto 4, 3), (11, .iconst 0, 1), (12, .ireturn, 1)], 2, 0, 0)
def cm8 : Me := ("slot", "(II)I", 2, 1, [(0, .iload_n 1, 1), (1, .bipush 16, 2), (3, .imul, 1), (4, .iload_n 2, 1), (5, .iadd, 1), (6, .ireturn, 1)], 3, 0, 0)
def cm9 : Me := ("peek", "(II)I", 2, 1, [(0, .aload_n 0, 1), (1, .getfield 32, 3), (4, .iload_n 1, 1), (5, .baload, 1), (6, .ifCond .ne 5, 3), (9, .iconst 0, 1), (10, .ireturn, 1), (11, .aload_n 0, 1), (12, .getfield 29, 3), (15, .iload_n 1, 1), (16, .iaload, 1), (17, .bipush 16, 2), (19, .iand, 1), (20, .ifCond .eq 10, 3), (23, .aload_n 0, 1), (24, .getfield 35, 3), (27, .iload_n 1, 1), (28, .iaload, 1), (29, .ireturn, 1), (30, .aload_n 0, 1), (31, .iload_n 2, 1), (32, .invokevirtual 61, 3), (35, .aload_n 0, 1), (36, .aload_n 0, 1), (37, .getfield 29, 3), (40, .iload_n 1, 1), (41, .iaload, 1), (42, .invokevirtual 65, 3), (45, .iand, 1), (46, .ireturn, 1)], 3, 1, 15)
def cm10 : Me := ("arm", "(III)V", 3, 0, [(0, .aload_n 0, 1), (1, .getfield 29, 3), (4, .iload_n 1, 1), (5, .iload_n 3, 1), (6, .iastore, 1), (7, .aload_n 0, 1), (8, .getfield 32, 3), (11, .iload_n 1, 1), (12, .iconst 1, 1), (13, .bastore, 1), (14, .iload_n 3, 1), (15, .bipush 16, 2), (17, .iand, 1), (18, .ifCond .eq 23, 3), (21, .aload_n 0, 1), (22, .getfield 35, 3), (25, .iload_n 1, 1), (26, .aload_n 0, 1), (27, .iload_n 2, 1), (28, .invokevirtual 61, 3), (31, .aload_n 0, 1), (32, .iload_n 3, 1), (33, .invokevirtual 65, 3), (36, .iand, 1), (37, .iastore, 1), (38, .goto 10, 3), (41, .aload_n 0, 1), (42, .getfield 35, 3), (45, .iload_n 1, 1), (46, .iconst 0, 1), (47, .iastore, 1), (48, .return_, 1)], 4, 1, 17)
def cm11 : Me := ("clearReg", "(I)V", 1, 0, [(0, .aload_n 0, 1), (1, .getfield 26, 3), (4, .iload_n 1, 1), (5, .iconst 0, 1), (6, .bastore, 1), (7, .aload_n 0, 1), (8, .getfield 29, 3), (11, .iload_n 1, 1), (12, .iconst 0, 1), (13, .iastore, 1), (14, .aload_n 0, 1), (15, .getfield 32, 3), (18, .iload_n 1, 1), (19, .iconst 0, 1), (20, .bastore, 1), (21, .aload_n 0, 1), (22, .getfield 35, 3), (25, .iload_n 1, 1), (26, .iconst 0, 1), (27, .iastore, 1), (28, .return_, 1)], 2, 0, 0)
def cm12 : Me := ("removeRegs", "(I)V", 1, 0, [(0, .iconst 0, 1), (1, .istore_n 2, 1), (2, .iload_n 2, 1), (3, .aload_n 0, 1), (4, .getfield 55, 3), (7, .if_icmp .ge 19, 3), (10, .aload_n 0, 1), (11, .aload_n 0, 1), (12, .iload_n 2, 1), (13, .iload_n 1, 1), (14, .invokevirtual 68, 3), (17, .invokevirtual 72, 3), (20, .iinc 2 1, 3), (23, .goto (-21), 3), (26, .return_, 1)], 3, 1, 15)
def cm13 : Me := ("edgeUpdate", "(II)V", 2, 0, [(0, .aload_n 0, 1), (1, .iload_n 1, 1), (2, .invokevirtual 76, 3), (5, .ifCond .ne 4, 3), (8, .return_, 1), (9, .aload_n 0, 1), (10, .iload_n 1, 1), (11, .invokevirtual 61, 3), (14, .istore_n 3, 1), (15, .iconst 0, 1), (16, .istore 4, 2), (18, .iload 4, 2), (20, .aload_n 0, 1), (21, .getfield 55, 3), (24, .if_icmp .ge 89, 3), (27, .aload_n 0, 1), (28, .iload 4, 2), (30, .iload_n 1, 1), (31, .invokevirtual 68, 3), (34, .istore 5, 2), (36, .aload_n 0, 1), (37, .getfield 26, 3), (40, .iload 5, 2), (42, .baload, 1), (43, .ifCond .eq 64, 3), (46, .aload_n 0, 1), (47, .getfield 32, 3), (50, .iload 5, 2), (52, .baload, 1), (53, .ifCond .eq 54, 3), (56, .aload_n 0, 1), (57, .getfield 29, 3), (60, .iload 5, 2), (62, .iaload, 1), (63, .bipush 16, 2), (65, .iand, 1), (66, .ifCond .eq 41, 3), (69, .aload_n 0, 1), (70, .aload_n 0, 1), (71, .getfield 29, 3), (74, .iload 5, 2), (76, .iaload, 1), (77, .invokevirtual 65, 3), (80, .istore 6, 2), (82, .aload_n 0, 1), (83, .getfield 35, 3), (86, .iload 5, 2), (88, .aload_n 0, 1), (89, .getfield 35, 3), (92, .iload 5, 2), (94, .iaload, 1), (95, .iload_n 3, 1), (96, .iand, 1), (97, .iload_n 3, 1), (98, .iload_n 2, 1), (99, .iconst (-1), 1), (100, .ixor, 1), (101, .iand, 1), (102, .iload 6, 2), (104, .iand, 1), (105, .ior, 1), (106, .iastore, 1), (107, .iinc 4 1, 3), (110, .goto (-92), 3), (113, .return_, 1)], 7, 1, 15)
def cm14 : Me := ("lookup", "(II)I", 2, 1, [(0, .aload_n 0, 1), (1, .iload_n 1, 1), (2, .invokevirtual 80, 3), (5, .ifCond .eq 11, 3), (8, .aload_n 0, 1), (9, .iload_n 2, 1), (10, .invokevirtual 76, 3), (13, .ifCond .ne 5, 3), (16, .iconst (-1), 1), (17, .ireturn, 1), (18, .aload_n 0, 1), (19, .iload_n 1, 1), (20, .iload_n 2, 1), (21, .invokevirtual 68, 3), (24, .istore_n 3, 1), (25, .aload_n 0, 1), (26, .getfield 26, 3), (29, .iload_n 3, 1), (30, .baload, 1), (31, .ifCond .ne 5, 3), (34, .iconst (-1), 1), (35, .ireturn, 1), (36, .iload_n 3, 1), (37, .ireturn, 1)], 4, 1, 14)
def cm15 : Me := ("createPipe", "()I", 0, 1, [(0, .iconst 0, 1), (1, .istore_n 1, 1), (2, .iload_n 1, 1), (3, .aload_n 0, 1), (4, .getfield 48, 3), (7, .if_icmp .ge 57, 3), (10, .aload_n 0, 1), (11, .getfield 7, 3), (14, .iload_n 1, 1), (15, .baload, 1), (16, .ifCond .ne 42, 3), (19, .aload_n 0, 1), (20, .getfield 13, 3), (23, .iload_n 1, 1), (24, .baload, 1), (25, .ifCond .ne 33, 3), (28, .aload_n 0, 1), (29, .getfield 7, 3), (32, .iload_n 1, 1), (33, .iconst 1, 1), (34, .bastore, 1), (35, .aload_n 0, 1), (36, .getfield 13, 3), (39, .iload_n 1, 1), (40, .iconst 1, 1), (41, .bastore, 1), (42, .aload_n 0, 1), (43, .getfield 20, 3), (46, .iload_n 1, 1), (47, .iconst 0, 1), (48, .iastore, 1), (49, .aload_n 0, 1), (50, .getfield 23, 3), (53, .iload_n 1, 1), (54, .iconst 0, 1), (55, .iastore, 1), (56, .iload_n 1, 1), (57, .ireturn, 1), (58, .iinc 1 1, 3), (61, .goto (-59), 3), (64, .bipush (-8), 2), (66, .ireturn, 1)], 2, 0, 0)
def cm16 : Me := ("write", "(II)I", 2, 1, [(0, .aload_n 0, 1), (1, .iload_n 1, 1), (2, .invokevirtual 76, 3), (5, .ifCond .eq 9, 3), (8, .iload_n 1, 1), (9, .iconst 1, 1), (10, .iand, 1), (11, .ifCond .ne 5, 3), (14, .iconst (-1), 1), (15, .ireturn, 1), (16, .iload_n 1, 1), (17, .iconst 1, 1), (18, .ishr, 1), (19, .istore_n 3, 1), (20, .aload_n 0, 1), (21, .getfield 7, 3), (24, .iload_n 3, 1), (25, .baload, 1), (26, .ifCond .ne 6, 3), (29, .bipush (-4), 2), (31, .ireturn, 1), (32, .aload_n 0, 1), (33, .getfield 23, 3), (36, .iload_n 3, 1), (37, .iaload, 1), (38, .aload_n 0, 1), (39, .getfield 52, 3), (42, .if_icmp .lt 6, 3), (45, .bipush (-2), 2), (47, .ireturn, 1), (48, .aload_n 0, 1), (49, .iconst 2, 1), (50, .iload_n 3, 1), (51, .imul, 1), (52, .invokevirtual 61, 3), (55, .istore 4, 2), (57, .aload_n 0, 1), (58, .iconst 2, 1), (59, .iload_n 3, 1), (60, .imul, 1), (61, .iconst 1, 1), (62, .iadd, 1), (63, .invokevirtual 61, 3), (66, .istore 5, 2), (68, .aload_n 0, 1), (69, .getfield 20, 3), (72, .iload_n 3, 1), (73, .iaload, 1), (74, .aload_n 0, 1), (75, .getfield 23, 3), (78, .iload_n 3, 1), (79, .iaload, 1), (80, .iadd, 1), (81, .bipush 15, 2), (83, .iand, 1), (84, .istore 6, 2), (86, .aload_n 0, 1), (87, .getfield 16, 3), (90, .iload_n 3, 1), (91, .bipush 16, 2), (93, .imul, 1), (94, .iload 6, 2), (96, .iadd, 1), (97, .iload_n 2, 1), (98, .sipush 255, 3), (101, .iand, 1), (102, .iastore, 1), (103, .aload_n 0, 1), (104, .getfield 23, 3), (107, .iload_n 3, 1), (108, .aload_n 0, 1), (109, .getfield 23, 3), (112, .iload_n 3, 1), (113, .iaload, 1), (114, .iconst 1, 1), (115, .iadd, 1), (116, .iastore, 1), (117, .aload_n 0, 1), (118, .iconst 2, 1), (119, .iload_n 3, 1), (120, .imul, 1), (121, .iload 4, 2), (123, .invokevirtual 83, 3), (126, .aload_n 0, 1), (127, .iconst 2, 1), (128, .iload_n 3, 1), (129, .imul, 1), (130, .iconst 1, 1), (131, .iadd, 1), (132, .iload 5, 2), (134, .invokevirtual 83, 3), (137, .iconst 0, 1), (138, .ireturn, 1)], 7, 2, 33)
def cm17 : Me := ("read", "(I)I", 1, 1, [(0, .aload_n 0, 1), (1, .iload_n 1, 1), (2, .invokevirtual 76, 3), (5, .ifCond .eq 9, 3), (8, .iload_n 1, 1), (9, .iconst 1, 1), (10, .iand, 1), (11, .ifCond .eq 5, 3), (14, .iconst (-1), 1), (15, .ireturn, 1), (16, .iload_n 1, 1), (17, .iconst 1, 1), (18, .ishr, 1), (19, .istore_n 2, 1), (20, .aload_n 0, 1), (21, .getfield 23, 3), (24, .iload_n 2, 1), (25, .iaload, 1), (26, .ifCond .ne 18, 3), (29, .aload_n 0, 1), (30, .getfield 13, 3), (33, .iload_n 2, 1), (34, .baload, 1), (35, .ifCond .eq 6, 3), (38, .bipush (-2), 2), (40, .ireturn, 1), (41, .bipush (-3), 2), (43, .ireturn, 1), (44, .aload_n 0, 1), (45, .iconst 2, 1), (46, .iload_n 2, 1), (47, .imul, 1), (48, .invokevirtual 61, 3), (51, .istore_n 3, 1), (52, .aload_n 0, 1), (53, .iconst 2, 1), (54, .iload_n 2, 1), (55, .imul, 1), (56, .iconst 1, 1), (57, .iadd, 1), (58, .invokevirtual 61, 3), (61, .istore 4, 2), (63, .aload_n 0, 1), (64, .getfield 16, 3), (67, .iload_n 2, 1), (68, .bipush 16, 2), (70, .imul, 1), (71, .aload_n 0, 1), (72, .getfield 20, 3), (75, .iload_n 2, 1), (76, .iaload, 1), (77, .bipush 15, 2), (79, .iand, 1), (80, .iadd, 1), (81, .iaload, 1), (82, .istore 5, 2), (84, .aload_n 0, 1), (85, .getfield 20, 3), (88, .iload_n 2, 1), (89, .aload_n 0, 1), (90, .getfield 20, 3), (93, .iload_n 2, 1), (94, .iaload, 1), (95, .iconst 1, 1), (96, .iadd, 1), (97, .bipush 15, 2), (99, .iand, 1), (100, .iastore, 1), (101, .aload_n 0, 1), (102, .getfield 23, 3), (105, .iload_n 2, 1), (106, .aload_n 0, 1), (107, .getfield 23, 3), (110, .iload_n 2, 1), (111, .iaload, 1), (112, .iconst 1, 1), (113, .isub, 1), (114, .iastore, 1), (115, .aload_n 0, 1), (116, .iconst 2, 1), (117, .iload_n 2, 1), (118, .imul, 1), (119, .iload_n 3, 1), (120, .invokevirtual 83, 3), (123, .aload_n 0, 1), (124, .iconst 2, 1), (125, .iload_n 2, 1), (126, .imul, 1), (127, .iconst 1, 1), (128, .iadd, 1), (129, .iload 4, 2), (131, .invokevirtual 83, 3), (134, .iload 5, 2), (136, .ireturn, 1)], 6, 2, 33)
def cm18 : Me := ("closeFd", "(I)I", 1, 1, [(0, .aload_n 0, 1), (1, .iload_n 1, 1), (2, .invokevirtual 76, 3), (5, .ifCond .ne 5, 3), (8, .iconst (-1), 1), (9, .ireturn, 1), (10, .iload_n 1, 1), (11, .iconst 1, 1), (12, .ishr, 1), (13, .istore_n 2, 1), (14, .iload_n 1, 1), (15, .iconst 1, 1), (16, .ixor, 1), (17, .istore_n 3, 1), (18, .iconst 0, 1), (19, .istore 4, 2), (21, .aload_n 0, 1), (22, .iload_n 3, 1), (23, .invokevirtual 76, 3), (26, .ifCond .eq 10, 3), (29, .aload_n 0, 1), (30, .iload_n 3, 1), (31, .invokevirtual 61, 3), (34, .istore 4, 2), (36, .iload_n 1, 1), (37, .iconst 1, 1), (38, .iand, 1), (39, .ifCond .ne 13, 3), (42, .aload_n 0, 1), (43, .getfield 7, 3), (46, .iload_n 2, 1), (47, .iconst 0, 1), (48, .bastore, 1), (49, .goto 10, 3), (52, .aload_n 0, 1), (53, .getfield 13, 3), (56, .iload_n 2, 1), (57, .iconst 0, 1), (58, .bastore, 1), (59, .aload_n 0, 1), (60, .iload_n 1, 1), (61, .invokevirtual 87, 3), (64, .aload_n 0, 1), (65, .iload_n 3, 1), (66, .iload 4, 2), (68, .invokevirtual 83, 3), (71, .iconst 0, 1), (72, .ireturn, 1)], 5, 2, 33)
def cm19 : Me := ("ctlAdd", "(III)I", 3, 1, [(0, .aload_n 0, 1), (1, .iload_n 1, 1), (2, .invokevirtual 80, 3), (5, .ifCond .eq 11, 3), (8, .aload_n 0, 1), (9, .iload_n 3, 1), (10, .invokevirtual 90, 3), (13, .ifCond .ne 6, 3), (16, .bipush (-6), 2), (18, .ireturn, 1), (19, .aload_n 0, 1), (20, .iload_n 2, 1), (21, .invokevirtual 76, 3), (24, .ifCond .ne 5, 3), (27, .iconst (-1), 1), (28, .ireturn, 1), (29, .aload_n 0, 1), (30, .iload_n 1, 1), (31, .iload_n 2, 1), (32, .invokevirtual 68, 3), (35, .istore 4, 2), (37, .aload_n 0, 1), (38, .getfield 26, 3), (41, .iload 4, 2), (43, .baload, 1), (44, .ifCond .eq 6, 3), (47, .bipush (-5), 2), (49, .ireturn, 1), (50, .aload_n 0, 1), (51, .getfield 26, 3), (54, .iload 4, 2), (56, .iconst 1, 1), (57, .bastore, 1), (58, .aload_n 0, 1), (59, .iload 4, 2), (61, .iload_n 2, 1), (62, .iload_n 3, 1), (63, .invokevirtual 93, 3), (66, .iconst 0, 1), (67, .ireturn, 1)], 5, 2, 32)
def cm20 : Me := ("ctlMod", "(III)I", 3, 1, [(0, .aload_n 0, 1), (1, .iload_n 1, 1), (2, .invokevirtual 80, 3), (5, .ifCond .eq 11, 3), (8, .aload_n 0, 1), (9, .iload_n 3, 1), (10, .invokevirtual 90, 3), (13, .ifCond .ne 6, 3), (16, .bipush (-6), 2), (18, .ireturn, 1), (19, .aload_n 0, 1), (20, .iload_n 2, 1), (21, .invokevirtual 76, 3), (24, .ifCond .ne 5, 3), (27, .iconst (-1), 1), (28, .ireturn, 1), (29, .aload_n 0, 1), (30, .iload_n 1, 1), (31, .iload_n 2, 1), (32, .invokevirtual 68, 3), (35, .istore 4, 2), (37, .aload_n 0, 1), (38, .getfield 26, 3), (41, .iload 4, 2), (43, .baload, 1), (44, .ifCond .ne 6, 3), (47, .bipush (-7), 2), (49, .ireturn, 1), (50, .aload_n 0, 1), (51, .iload 4, 2), (53, .iload_n 2, 1), (54, .iload_n 3, 1), (55, .invokevirtual 93, 3), (58, .iconst 0, 1), (59, .ireturn, 1)], 5, 2, 32)
def cm21 : Me := ("ctlDel", "(II)I", 2, 1, [(0, .aload_n 0, 1), (1, .iload_n 1, 1), (2, .invokevirtual 80, 3), (5, .ifCond .ne 6, 3), (8, .bipush (-6), 2), (10, .ireturn, 1), (11, .aload_n 0, 1), (12, .iload_n 2, 1), (13, .invokevirtual 76, 3), (16, .ifCond .ne 5, 3), (19, .iconst (-1), 1), (20, .ireturn, 1), (21, .aload_n 0, 1), (22, .iload_n 1, 1), (23, .iload_n 2, 1), (24, .invokevirtual 68, 3), (27, .istore_n 3, 1), (28, .aload_n 0, 1), (29, .getfield 26, 3), (32, .iload_n 3, 1), (33, .baload, 1), (34, .ifCond .ne 6, 3), (37, .bipush (-7), 2), (39, .ireturn, 1), (40, .aload_n 0, 1), (41, .iload_n 3, 1), (42, .invokevirtual 72, 3), (45, .iconst 0, 1), (46, .ireturn, 1)], 4, 1, 14)
def cm22 : Me := ("wait", "(II)I", 2, 1, [(0, .aload_n 0, 1), (1, .iload_n 1, 1), (2, .invokevirtual 80, 3), (5, .ifCond .eq 8, 3), (8, .iload_n 2, 1), (9, .iconst 1, 1), (10, .if_icmp .ge 6, 3), (13, .bipush (-6), 2), (15, .ireturn, 1), (16, .iload_n 2, 1), (17, .bipush 16, 2), (19, .if_icmp .le 8, 3), (22, .bipush 16, 2), (24, .goto 4, 3), (27, .iload_n 2, 1), (28, .istore_n 3, 1), (29, .iconst 0, 1), (30, .istore 4, 2), (32, .iconst 2, 1), (33, .aload_n 0, 1), (34, .getfield 48, 3), (37, .imul, 1), (38, .istore 5, 2), (40, .iconst 0, 1), (41, .istore 6, 2), (43, .iload 6, 2), (45, .iload 5, 2), (47, .if_icmp .ge 82, 3), (50, .iload 4, 2), (52, .iload_n 3, 1), (53, .if_icmp .ge 76, 3), (56, .aload_n 0, 1), (57, .iload_n 1, 1), (58, .iload 6, 2), (60, .invokevirtual 68, 3), (63, .istore 7, 2), (65, .aload_n 0, 1), (66, .getfield 26, 3), (69, .iload 7, 2), (71, .baload, 1), (72, .ifCond .ne 6, 3), (75, .goto 48, 3), (78, .aload_n 0, 1), (79, .iload 7, 2), (81, .iload 6, 2), (83, .invokevirtual 97, 3), (86, .istore 8, 2), (88, .iload 8, 2), (90, .ifCond .ne 6, 3), (93, .goto 30, 3), (96, .aload_n 0, 1), (97, .getfield 38, 3), (100, .iload 4, 2), (102, .iload 6, 2), (104, .iastore, 1), (105, .aload_n 0, 1), (106, .getfield 41, 3), (109, .iload 4, 2), (111, .iload 8, 2), (113, .iastore, 1), (114, .iinc 4 1, 3), (117, .aload_n 0, 1), (118, .iload 7, 2), (120, .invokevirtual 100, 3), (123, .iinc 6 1, 3), (126, .goto (-83), 3), (129, .aload_n 0, 1), (130, .iload 4, 2), (132, .putfield 58, 3), (135, .iload 4, 2), (137, .ireturn, 1)], 9, 2, 29)
def cm23 : Me := ("consume", "(I)V", 1, 0, [(0, .aload_n 0, 1), (1, .getfield 29, 3), (4, .iload_n 1, 1), (5, .iaload, 1), (6, .bipush 32, 2), (8, .iand, 1), (9, .ifCond .eq 20, 3), (12, .aload_n 0, 1), (13, .getfield 32, 3), (16, .iload_n 1, 1), (17, .iconst 0, 1), (18, .bastore, 1), (19, .aload_n 0, 1), (20, .getfield 35, 3), (23, .iload_n 1, 1), (24, .iconst 0, 1), (25, .iastore, 1), (26, .goto 22, 3), (29, .aload_n 0, 1), (30, .getfield 29, 3), (33, .iload_n 1, 1), (34, .iaload, 1), (35, .bipush 16, 2), (37, .iand, 1), (38, .ifCond .eq 10, 3), (41, .aload_n 0, 1), (42, .getfield 35, 3), (45, .iload_n 1, 1), (46, .iconst 0, 1), (47, .iastore, 1), (48, .return_, 1)], 2, 0, 0)
def cm24 : Me := ("eventFd", "(I)I", 1, 1, [(0, .iload_n 1, 1), (1, .ifCond .lt 11, 3), (4, .iload_n 1, 1), (5, .aload_n 0, 1), (6, .getfield 58, 3), (9, .if_icmp .lt 5, 3), (12, .iconst (-1), 1), (13, .ireturn, 1), (14, .aload_n 0, 1), (15, .getfield 38, 3), (18, .iload_n 1, 1), (19, .iaload, 1), (20, .ireturn, 1)], 2, 0, 0)
def cm25 : Me := ("eventMask", "(I)I", 1, 1, [(0, .iload_n 1, 1), (1, .ifCond .lt 11, 3), (4, .iload_n 1, 1), (5, .aload_n 0, 1), (6, .getfield 58, 3), (9, .if_icmp .lt 5, 3), (12, .iconst 0, 1), (13, .ireturn, 1), (14, .aload_n 0, 1), (15, .getfield 41, 3), (18, .iload_n 1, 1), (19, .iaload, 1), (20, .ireturn, 1)], 2, 0, 0)
def cm26 : Me := ("pipeBytes", "(I)I", 1, 1, [(0, .iload_n 1, 1), (1, .ifCond .lt 11, 3), (4, .iload_n 1, 1), (5, .aload_n 0, 1), (6, .getfield 48, 3), (9, .if_icmp .lt 5, 3), (12, .iconst (-1), 1), (13, .ireturn, 1), (14, .aload_n 0, 1), (15, .getfield 7, 3), (18, .iload_n 1, 1), (19, .baload, 1), (20, .ifCond .ne 14, 3), (23, .aload_n 0, 1), (24, .getfield 13, 3), (27, .iload_n 1, 1), (28, .baload, 1), (29, .ifCond .ne 5, 3), (32, .iconst (-1), 1), (33, .ireturn, 1), (34, .aload_n 0, 1), (35, .getfield 23, 3), (38, .iload_n 1, 1), (39, .iaload, 1), (40, .ireturn, 1)], 2, 0, 0)
def cm27 : Me := ("fdReadiness", "(I)I", 1, 1, [(0, .aload_n 0, 1), (1, .iload_n 1, 1), (2, .invokevirtual 76, 3), (5, .ifCond .ne 5, 3), (8, .iconst (-1), 1), (9, .ireturn, 1), (10, .aload_n 0, 1), (11, .iload_n 1, 1), (12, .invokevirtual 61, 3), (15, .ireturn, 1)], 2, 1, 15)
def cm28 : Me := ("regInfo", "(II)I", 2, 1, [(0, .aload_n 0, 1), (1, .iload_n 1, 1), (2, .iload_n 2, 1), (3, .invokevirtual 103, 3), (6, .istore_n 3, 1), (7, .iload_n 3, 1), (8, .ifCond .ge 5, 3), (11, .iconst (-1), 1), (12, .ireturn, 1), (13, .aload_n 0, 1), (14, .getfield 29, 3), (17, .iload_n 3, 1), (18, .iaload, 1), (19, .istore 4, 2), (21, .aload_n 0, 1), (22, .getfield 32, 3), (25, .iload_n 3, 1), (26, .baload, 1), (27, .ifCond .ne 10, 3), (30, .iload 4, 2), (32, .bipush 64, 2), (34, .ior, 1), (35, .istore 4, 2), (37, .iload 4, 2), (39, .ireturn, 1)], 5, 2, 29)
def cm29 : Me := ("peekReady", "(II)I", 2, 1, [(0, .aload_n 0, 1), (1, .iload_n 1, 1), (2, .iload_n 2, 1), (3, .invokevirtual 103, 3), (6, .istore_n 3, 1), (7, .iload_n 3, 1), (8, .ifCond .ge 5, 3), (11, .iconst (-1), 1), (12, .ireturn, 1), (13, .aload_n 0, 1), (14, .iload_n 3, 1), (15, .iload_n 2, 1), (16, .invokevirtual 97, 3), (19, .ireturn, 1)], 4, 2, 29)
def cm30 : Me := ("readyCount", "(I)I", 1, 1, [(0, .aload_n 0, 1), (1, .iload_n 1, 1), (2, .invokevirtual 80, 3), (5, .ifCond .ne 5, 3), (8, .iconst (-1), 1), (9, .ireturn, 1), (10, .iconst 0, 1), (11, .istore_n 2, 1), (12, .iconst 2, 1), (13, .aload_n 0, 1), (14, .getfield 48, 3), (17, .imul, 1), (18, .istore_n 3, 1), (19, .iconst 0, 1), (20, .istore 4, 2), (22, .iload 4, 2), (24, .iload_n 3, 1), (25, .if_icmp .ge 42, 3), (28, .aload_n 0, 1), (29, .iload_n 1, 1), (30, .iload 4, 2), (32, .invokevirtual 68, 3), (35, .istore 5, 2), (37, .aload_n 0, 1), (38, .getfield 26, 3), (41, .iload 5, 2), (43, .baload, 1), (44, .ifCond .eq 17, 3), (47, .aload_n 0, 1), (48, .iload 5, 2), (50, .iload 4, 2), (52, .invokevirtual 97, 3), (55, .ifCond .eq 6, 3), (58, .iinc 2 1, 3), (61, .iinc 4 1, 3), (64, .goto (-42), 3), (67, .iload_n 2, 1), (68, .ireturn, 1)], 6, 2, 29)
def PP : Cl := ("ReadinessPoller", [(17, ("nPipes", "I", 0, false)), (18, ("cap", "I", 0, false)), (19, ("nPolls", "I", 0, false)), (20, ("readOpen", "[Z", 3, false)), (21, ("writeOpen", "[Z", 4, false)), (22, ("buf", "[I", 5, false)), (23, ("head", "[I", 6, false)), (24, ("count", "[I", 7, false)), (25, ("regged", "[Z", 8, false)), (26, ("word", "[I", 9, false)), (27, ("enabled", "[Z", 10, false)), (28, ("pend", "[I", 11, false)), (29, ("resFd", "[I", 12, false)), (30, ("resMask", "[I", 13, false)), (31, ("resN", "I", 0, false))], [(1, 8), (1, 8), (0, 128), (0, 8), (0, 8), (1, 64), (0, 64), (1, 64), (0, 64), (0, 16), (0, 16)], [(7, 20), (13, 21), (16, 22), (20, 23), (23, 24), (26, 25), (29, 26), (32, 27), (35, 28), (38, 29), (41, 30), (48, 17), (52, 18), (55, 19), (58, 31)], [(44, 2), (61, 4), (65, 5), (68, 8), (72, 11), (76, 3), (80, 6), (83, 13), (87, 12), (90, 7), (93, 10), (97, 9), (100, 23), (103, 14)], [], [(0, cm0), (2, cm2), (3, cm3), (4, cm4), (5, cm5), (6, cm6), (7, cm7), (8, cm8), (9, cm9), (10, cm10), (11, cm11), (12, cm12), (13, cm13), (14, cm14), (15, cm15), (16, cm16), (17, cm17), (18, cm18), (19, cm19), (20, cm20), (21, cm21), (22, cm22), (23, cm23), (24, cm24), (25, cm25), (26, cm26), (27, cm27), (28, cm28), (29, cm29), (30, cm30)], 1)
def lm0 : Me := ("law", "([I)Z", 1, 2, [(0, .new 7, 3), (3, .dup, 1), (4, .iconst 2, 1), (5, .iconst 4, 1), (6, .iconst 2, 1), (7, .invokespecial 9, 3), (10, .astore_n 1, 1), (11, .iconst 0, 1), (12, .istore_n 2, 1), (13, .iconst 0, 1), (14, .istore_n 3, 1), (15, .iconst 0, 1), (16, .istore 4, 2), (18, .iconst 0, 1), (19, .istore 5, 2), (21, .iconst 0, 1), (22, .istore 6, 2), (24, .iconst 0, 1), (25, .istore 7, 2), (27, .lconst 0, 1), (28, .lstore 8, 2), (30, .lconst 0, 1), (31, .lstore 10, 2), (33, .iconst 0, 1), (34, .istore 12, 2), (36, .iload 12, 2), (38, .iconst 3, 1), (39, .iadd, 1), (40, .aload_n 0, 1), (41, .arraylength, 1), (42, .if_icmp .ge 1118, 3), (45, .aload_n 0, 1), (46, .iload 12, 2), (48, .iaload, 1), (49, .bipush 7, 2), (51, .iand, 1), (52, .istore 13, 2), (54, .aload_n 0, 1), (55, .iload 12, 2), (57, .iconst 1, 1), (58, .iadd, 1), (59, .iaload, 1), (60, .sipush 255, 3), (63, .iand, 1), (64, .istore 14, 2), (66, .aload_n 0, 1), (67, .iload 12, 2), (69, .iconst 2, 1), (70, .iadd, 1), (71, .iaload, 1), (72, .sipush 255, 3), (75, .iand, 1), (76, .istore 15, 2), (78, .aload_n 0, 1), (79, .iload 12, 2), (81, .iconst 3, 1), (82, .iadd, 1), (83, .iaload, 1), (84, .sipush 255, 3), (87, .iand, 1), (88, .istore 16, 2), (90, .iload 14, 2), (92, .iconst 3, 1), (93, .irem, 1), (94, .istore 17, 2), (96, .iload 15, 2), (98, .iconst 5, 1), (99, .irem, 1), (100, .istore 18, 2), (102, .iload 18, 2), (104, .iconst 1, 1), (105, .ishr, 1), (106, .istore 19, 2), (108, .iconst 0, 1), (109, .istore 20, 2), (111, .iconst 0, 1), (112, .istore 21, 2), (114, .iload 16, 2), (116, .iconst 3, 1), (117, .iand, 1), (118, .iload 16, 2), (120, .bipush 12, 2), (122, .iand, 1), (123, .iconst 2, 1), (124, .ishl, 1), (125, .ior, 1), (126, .iload 16, 2), (128, .sipush 248, 3), (131, .if_icmp .lt 8, 3), (134, .bipush 64, 2), (136, .goto 4, 3), (139, .iconst 0, 1), (140, .ior, 1), (141, .istore 22, 2), (143, .iload 18, 2), (145, .iconst 4, 1), (146, .if_icmp .ge 16, 3), (149, .iload_n 2, 1), (150, .iload 18, 2), (152, .ishr, 1), (153, .iconst 1, 1), (154, .iand, 1), (155, .ifCond .eq 7, 3), (158, .iconst 1, 1), (159, .goto 4, 3), (162, .iconst 0, 1), (163, .istore 23, 2), (165, .iload 19, 2), (167, .iconst 2, 1), (168, .if_icmp .ge 15, 3), (171, .iload_n 3, 1), (172, .iload 19, 2), (174, .iconst 4, 1), (175, .imul, 1), (176, .ishr, 1), (177, .bipush 15, 2), (179, .iand, 1), (180, .goto 4, 3), (183, .iconst 0, 1), (184, .istore 24, 2), (186, .iload_n 2, 1), (187, .iload_n 3, 1), (188, .iconst 2, 1), (189, .iload 19, 2), (191, .imul, 1), (192, .invokestatic 12, 3), (195, .istore 25, 2), (197, .iload_n 2, 1), (198, .iload_n 3, 1), (199, .iconst 2, 1), (200, .iload 19, 2), (202, .imul, 1), (203, .iconst 1, 1), (204, .iadd, 1), (205, .invokestatic 12, 3), (208, .istore 26, 2), (210, .iload 13, 2), (212, .ifCond .ne 81, 3), (215, .aload_n 1, 1), (216, .invokevirtual 18, 3), (219, .istore 21, 2), (221, .iload_n 2, 1), (222, .iconst 3, 1), (223, .iand, 1), (224, .ifCond .ne 7, 3), (227, .iconst 0, 1), (228, .goto 16, 3), (231, .iload_n 2, 1), (232, .bipush 12, 2), (234, .iand, 1), (235, .ifCond .ne 7, 3), (238, .iconst 1, 1), (239, .goto 5, 3), (242, .bipush (-8), 2), (244, .istore 20, 2), (246, .iload 20, 2), (248, .ifCond .lt 878, 3), (251, .iload_n 2, 1), (252, .iconst 3, 1), (253, .iconst 2, 1), (254, .iload 20, 2), (256, .imul, 1), (257, .ishl, 1), (258, .ior, 1), (259, .istore_n 2, 1), (260, .iload_n 3, 1), (261, .bipush 15, 2), (263, .iconst 4, 1), (264, .iload 20, 2), (266, .imul, 1), (267, .ishl, 1), (268, .iconst (-1), 1), (269, .ixor, 1), (270, .iand, 1), (271, .istore_n 3, 1), (272, .lload 8, 2), (274, .ldc2_w 22, 3), (277, .bipush 32, 2), (279, .iload 20, 2), (281, .imul, 1), (282, .lshl, 1), (283, .ldc2_w 24, 3), (286, .lxor, 1), (287, .land, 1), (288, .lstore 8, 2), (290, .goto 836, 3), (293, .iload 13, 2), (295, .iconst 1, 1), (296, .if_icmp .ne 115, 3), (299, .aload_n 1, 1), (300, .iload 18, 2), (302, .aload_n 0, 1), (303, .iload 12, 2), (305, .iconst 3, 1), (306, .iadd, 1), (307, .iaload, 1), (308, .invokevirtual 26, 3), (311, .istore 21, 2), (313, .iload 23, 2), (315, .ifCond .eq 10, 3), (318, .iload 18, 2), (320, .iconst 1, 1), (321, .iand, 1), (322, .ifCond .ne 9, 3), (325, .iconst (-1), 1), (326, .istore 20, 2), (328, .goto 798, 3), (331, .iload_n 2, 1), (332, .iload 18, 2), (334, .iconst 1, 1), (335, .isub, 1), (336, .ishr, 1), (337, .iconst 1, 1), (338, .iand, 1), (339, .ifCond .ne 10, 3), (342, .bipush (-4), 2), (344, .istore 20, 2), (346, .goto 780, 3), (349, .iload 24, 2), (351, .iconst 4, 1), (352, .if_icmp .ne 10, 3), (355, .bipush (-2), 2), (357, .istore 20, 2), (359, .goto 767, 3), (362, .lload 8, 2), (364, .iload 16, 2), (366, .i2l, 1), (367, .iload 19, 2), (369, .bipush 32, 2), (371, .imul, 1), (372, .iload 24, 2), (374, .bipush 8, 2), (376, .imul, 1), (377, .iadd, 1), (378, .lshl, 1), (379, .lor, 1), (380, .lstore 8, 2), (382, .iload_n 3, 1), (383, .iconst 1, 1), (384, .iload 19, 2), (386, .iconst 4, 1), (387, .imul, 1), (388, .ishl, 1), (389, .iadd, 1), (390, .istore_n 3, 1), (391, .lload 10, 2), (393, .iload 4, 2), (395, .iload_n 2, 1), (396, .iload_n 3, 1), (397, .iload 19, 2), (399, .iload 25, 2), (401, .iload 26, 2), (403, .invokestatic 30, 3), (406, .istore 4, 2), (408, .goto 718, 3), (411, .iload 13, 2), (413, .iconst 2, 1), (414, .if_icmp .ne 140, 3), (417, .aload_n 1, 1), (418, .iload 18, 2), (420, .invokevirtual 34, 3), (423, .istore 21, 2), (425, .iload 23, 2), (427, .ifCond .eq 11, 3), (430, .iload 18, 2), (432, .iconst 1, 1), (433, .iand, 1), (434, .iconst 1, 1), (435, .if_icmp .ne 9, 3), (438, .iconst (-1), 1), (439, .istore 20, 2), (441, .goto 685, 3), (444, .iload 24, 2), (446, .ifCond .ne 26, 3), (449, .iload_n 2, 1), (450, .iload 18, 2), (452, .iconst 1, 1), (453, .iadd, 1), (454, .ishr, 1), (455, .iconst 1, 1), (456, .iand, 1), (457, .ifCond .eq 8, 3), (460, .bipush (-2), 2), (462, .goto 5, 3), (465, .bipush (-3), 2), (467, .istore 20, 2), (469, .goto 657, 3), (472, .lload 8, 2), (474, .iload 19, 2), (476, .bipush 32, 2), (478, .imul, 1), (479, .lushr, 1), (480, .ldc2_w 22, 3), (483, .land, 1), (484, .lstore 27, 2), (486, .lload 27, 2), (488, .ldc2_w 38, 3), (491, .land, 1), (492, .l2i, 1), (493, .istore 20, 2), (495, .lload 8, 2), (497, .ldc2_w 22, 3), (500, .iload 19, 2), (502, .bipush 32, 2), (504, .imul, 1), (505, .lshl, 1), (506, .ldc2_w 24, 3), (509, .lxor, 1), (510, .land, 1), (511, .lload 27, 2), (513, .bipush 8, 2), (515, .lushr, 1), (516, .iload 19, 2), (518, .bipush 32, 2), (520, .imul, 1), (521, .lshl, 1), (522, .lor, 1), (523, .lstore 8, 2), (525, .iload_n 3, 1), (526, .iconst 1, 1), (527, .iload 19, 2), (529, .iconst 4, 1), (530, .imul, 1), (531, .ishl, 1), (532, .isub, 1), (533, .istore_n 3, 1), (534, .lload 10, 2), (536, .iload 4, 2), (538, .iload_n 2, 1), (539, .iload_n 3, 1), (540, .iload 19, 2), (542, .iload 25, 2), (544, .iload 26, 2), (546, .invokestatic 30, 3), (549, .istore 4, 2), (551, .goto 575, 3), (554, .iload 13, 2), (556, .iconst 3, 1), (557, .if_icmp .ne 111, 3), (560, .aload_n 1, 1), (561, .iload 18, 2), (563, .invokevirtual 40, 3), (566, .istore 21, 2), (568, .iload 23, 2), (570, .ifCond .ne 9, 3), (573, .iconst (-1), 1), (574, .istore 20, 2), (576, .goto 550, 3), (579, .iload_n 2, 1), (580, .iconst 1, 1), (581, .iload 18, 2), (583, .ishl, 1), (584, .iconst (-1), 1), (585, .ixor, 1), (586, .iand, 1), (587, .istore_n 2, 1), (588, .lload 10, 2), (590, .ldc2_w 38, 3), (593, .iload 18, 2), (595, .bipush 8, 2), (597, .imul, 1), (598, .lshl, 1), (599, .ldc2_w 24, 3), (602, .lxor, 1), (603, .ldc2_w 38, 3), (606, .iload 18, 2), (608, .iconst 4, 1), (609, .iadd, 1), (610, .bipush 8, 2), (612, .imul, 1), (613, .lshl, 1), (614, .ldc2_w 24, 3), (617, .lxor, 1), (618, .land, 1), (619, .land, 1), (620, .lstore 10, 2), (622, .iload 4, 2), (624, .bipush 15, 2), (626, .iload 18, 2), (628, .iconst 4, 1), (629, .imul, 1), (630, .ishl, 1), (631, .iconst (-1), 1), (632, .ixor, 1), (633, .bipush 15, 2), (635, .iload 18, 2), (637, .iconst 4, 1), (638, .iadd, 1), (639, .iconst 4, 1), (640, .imul, 1), (641, .ishl, 1), (642, .iconst (-1), 1), (643, .ixor, 1), (644, .iand, 1), (645, .iand, 1), (646, .istore 4, 2), (648, .lload 10, 2), (650, .iload 4, 2), (652, .iload_n 2, 1), (653, .iload_n 3, 1), (654, .iload 19, 2), (656, .iload 25, 2), (658, .iload 26, 2), (660, .invokestatic 30, 3), (663, .istore 4, 2), (665, .goto 461, 3), (668, .iload 13, 2), (670, .bipush 6, 2), (672, .if_icmp .gt 270, 3), (675, .iload 17, 2), (677, .iconst 4, 1), (678, .imul, 1), (679, .iload 18, 2), (681, .iadd, 1), (682, .istore 27, 2), (684, .iload 17, 2), (686, .iconst 2, 1), (687, .if_icmp .ge 24, 3), (690, .iload 18, 2), (692, .iconst 4, 1), (693, .if_icmp .ge 18, 3), (696, .lload 10, 2), (698, .iload 27, 2), (700, .bipush 8, 2), (702, .imul, 1), (703, .lushr, 1), (704, .ldc2_w 38, 3), (707, .land, 1), (708, .goto 4, 3), (711, .lconst 0, 1), (712, .lstore 28, 2), (714, .iload 13, 2), (716, .iconst 4, 1), (717, .if_icmp .ne 18, 3), (720, .aload_n 1, 1), (721, .iload 17, 2), (723, .iload 18, 2), (725, .iload 22, 2), (727, .invokevirtual 43, 3), (730, .istore 21, 2), (732, .goto 34, 3), (735, .iload 13, 2), (737, .iconst 5, 1), (738, .if_icmp .ne 18, 3), (741, .aload_n 1, 1), (742, .iload 17, 2), (744, .iload 18, 2), (746, .iload 22, 2), (748, .invokevirtual 46, 3), (751, .istore 21, 2), (753, .goto 13, 3), (756, .aload_n 1, 1), (757, .iload 17, 2), (759, .iload 18, 2), (761, .invokevirtual 49, 3), (764, .istore 21, 2), (766, .iload 17, 2), (768, .iconst 2, 1), (769, .if_icmp .ge 18, 3), (772, .iload 13, 2), (774, .bipush 6, 2), (776, .if_icmp .eq 18, 3), (779, .iload 22, 2), (781, .bipush (-52), 2), (783, .iand, 1), (784, .ifCond .eq 10, 3), (787, .bipush (-6), 2), (789, .istore 20, 2), (791, .goto 148, 3), (794, .iload 23, 2), (796, .ifCond .ne 9, 3), (799, .iconst (-1), 1), (800, .istore 20, 2), (802, .goto 137, 3), (805, .iload 13, 2), (807, .iconst 4, 1), (808, .if_icmp .ne 17, 3), (811, .lload 28, 2), (813, .lconst 0, 1), (814, .lcmp, 1), (815, .ifCond .eq 10, 3), (818, .bipush (-5), 2), (820, .istore 20, 2), (822, .goto 117, 3), (825, .iload 13, 2), (827, .iconst 4, 1), (828, .if_icmp .eq 17, 3), (831, .lload 28, 2), (833, .lconst 0, 1), (834, .lcmp, 1), (835, .ifCond .ne 10, 3), (838, .bipush (-7), 2), (840, .istore 20, 2), (842, .goto 97, 3), (845, .lload 10, 2), (847, .ldc2_w 38, 3), (850, .iload 27, 2), (852, .bipush 8, 2), (854, .imul, 1), (855, .lshl, 1), (856, .ldc2_w 24, 3), (859, .lxor, 1), (860, .land, 1), (861, .lstore 10, 2), (863, .iload 4, 2), (865, .bipush 15, 2), (867, .iload 27, 2), (869, .iconst 4, 1), (870, .imul, 1), (871, .ishl, 1), (872, .iconst (-1), 1), (873, .ixor, 1), (874, .iand, 1), (875, .istore 4, 2), (877, .iload 13, 2), (879, .bipush 6, 2), (881, .if_icmp .eq 58, 3), (884, .lload 10, 2), (886, .sipush 128, 3), (889, .iload 22, 2), (891, .ior, 1), (892, .i2l, 1), (893, .iload 27, 2), (895, .bipush 8, 2), (897, .imul, 1), (898, .lshl, 1), (899, .lor, 1), (900, .lstore 10, 2), (902, .iload 4, 2), (904, .iload 22, 2), (906, .bipush 16, 2), (908, .iand, 1), (909, .ifCond .eq 21, 3), (912, .iload_n 2, 1), (913, .iload_n 3, 1), (914, .iload 18, 2), (916, .invokestatic 12, 3), (919, .iload 22, 2), (921, .iconst 3, 1), (922, .iand, 1), (923, .bipush 12, 2), (925, .ior, 1), (926, .iand, 1), (927, .goto 4, 3), (930, .iconst 0, 1), (931, .iload 27, 2), (933, .iconst 4, 1), (934, .imul, 1), (935, .ishl, 1), (936, .ior, 1), (937, .istore 4, 2), (939, .goto 187, 3), (942, .iload 15, 2), (944, .bipush 7, 2), (946, .iand, 1), (947, .istore 27, 2), (949, .aload_n 1, 1), (950, .iload 17, 2), (952, .iload 27, 2), (954, .invokevirtual 52, 3), (957, .istore 21, 2), (959, .iload 17, 2), (961, .iconst 2, 1), (962, .if_icmp .ge 9, 3), (965, .iload 27, 2), (967, .iconst 1, 1), (968, .if_icmp .ge 10, 3), (971, .bipush (-6), 2), (973, .istore 20, 2), (975, .goto 151, 3), (978, .iconst 0, 1), (979, .istore 6, 2), (981, .iconst 0, 1), (982, .istore 7, 2), (984, .iconst 0, 1), (985, .istore 28, 2), (987, .iload 28, 2), (989, .iconst 4, 1), (990, .if_icmp .ge 132, 3), (993, .iload 20, 2), (995, .iload 27, 2), (997, .if_icmp .ge 125, 3), (1000, .iload 17, 2), (1002, .iconst 4, 1), (1003, .imul, 1), (1004, .iload 28, 2), (1006, .iadd, 1), (1007, .istore 29, 2), (1009, .lload 10, 2), (1011, .iload 4, 2), (1013, .iload_n 2, 1), (1014, .iload_n 3, 1), (1015, .iload 29, 2), (1017, .invokestatic 55, 3), (1020, .istore 30, 2), (1022, .iload 30, 2), (1024, .ifCond .le 92, 3), (1027, .iload 6, 2), (1029, .iload 28, 2), (1031, .iload 20, 2), (1033, .iconst 4, 1), (1034, .imul, 1), (1035, .ishl, 1), (1036, .ior, 1), (1037, .istore 6, 2), (1039, .iload 7, 2), (1041, .iload 30, 2), (1043, .iload 20, 2), (1045, .iconst 4, 1), (1046, .imul, 1), (1047, .ishl, 1), (1048, .ior, 1), (1049, .istore 7, 2), (1051, .iinc 20 1, 3), (1054, .lload 10, 2), (1056, .iload 29, 2), (1058, .bipush 8, 2), (1060, .imul, 1), (1061, .lushr, 1), (1062, .ldc2_w 59, 3), (1065, .land, 1), (1066, .lconst 0, 1), (1067, .lcmp, 1), (1068, .ifCond .eq 17, 3), (1071, .lload 10, 2), (1073, .ldc2_w 61, 3), (1076, .iload 29, 2), (1078, .bipush 8, 2), (1080, .imul, 1), (1081, .lshl, 1), (1082, .lor, 1), (1083, .lstore 10, 2), (1085, .lload 10, 2), (1087, .iload 29, 2), (1089, .bipush 8, 2), (1091, .imul, 1), (1092, .lushr, 1), (1093, .ldc2_w 63, 3), (1096, .land, 1), (1097, .lconst 0, 1), (1098, .lcmp, 1), (1099, .ifCond .eq 17, 3), (1102, .iload 4, 2), (1104, .bipush 15, 2), (1106, .iload 29, 2), (1108, .iconst 4, 1), (1109, .imul, 1), (1110, .ishl, 1), (1111, .iconst (-1), 1), (1112, .ixor, 1), (1113, .iand, 1), (1114, .istore 4, 2), (1116, .iinc 28 1, 3), (1119, .goto (-132), 3), (1122, .iload 20, 2), (1124, .istore 5, 2), (1126, .iload 21, 2), (1128, .iload 20, 2), (1130, .if_icmp .ne 22, 3), (1133, .aload_n 1, 1), (1134, .iload_n 2, 1), (1135, .iload_n 3, 1), (1136, .lload 10, 2), (1138, .iload 4, 2), (1140, .iload 5, 2), (1142, .iload 6, 2), (1144, .iload 7, 2), (1146, .invokestatic 65, 3), (1149, .ifCond .ne 5, 3), (1152, .iconst 0, 1), (1153, .ireturn, 1), (1154, .iinc 12 4, 3), (1157, .goto (-1121), 3), (1160, .iconst 1, 1), (1161, .ireturn, 1)], 31, 7, 176)
def lm3 : Me := ("rd", "(III)I", 3, 1, [(0, .iload_n 2, 1), (1, .ifCond .lt 16, 3), (4, .iload_n 2, 1), (5, .iconst 3, 1), (6, .if_icmp .gt 11, 3), (9, .iload_n 0, 1), (10, .iload_n 2, 1), (11, .ishr, 1), (12, .iconst 1, 1), (13, .iand, 1), (14, .ifCond .ne 5, 3), (17, .iconst (-1), 1), (18, .ireturn, 1), (19, .iload_n 1, 1), (20, .iload_n 2, 1), (21, .iconst 1, 1), (22, .ishr, 1), (23, .iconst 4, 1), (24, .imul, 1), (25, .ishr, 1), (26, .bipush 15, 2), (28, .iand, 1), (29, .istore_n 3, 1), (30, .iload_n 2, 1), (31, .iconst 1, 1), (32, .iand, 1), (33, .ifCond .ne 46, 3), (36, .iload_n 0, 1), (37, .iload_n 2, 1), (38, .iconst 1, 1), (39, .iadd, 1), (40, .ishr, 1), (41, .iconst 1, 1), (42, .iand, 1), (43, .ifCond .ne 7, 3), (46, .iconst 1, 1), (47, .goto 4, 3), (50, .iconst 0, 1), (51, .istore 4, 2), (53, .iload_n 3, 1), (54, .ifCond .gt 8, 3), (57, .iload 4, 2), (59, .ifCond .eq 7, 3), (62, .iconst 1, 1), (63, .goto 4, 3), (66, .iconst 0, 1), (67, .iload 4, 2), (69, .ifCond .eq 7, 3), (72, .iconst 4, 1), (73, .goto 4, 3), (76, .iconst 0, 1), (77, .ior, 1), (78, .ireturn, 1), (79, .iload_n 0, 1), (80, .iload_n 2, 1), (81, .iconst 1, 1), (82, .isub, 1), (83, .ishr, 1), (84, .iconst 1, 1), (85, .iand, 1), (86, .ifCond .ne 7, 3), (89, .iconst 1, 1), (90, .goto 4, 3), (93, .iconst 0, 1), (94, .istore 4, 2), (96, .iload_n 3, 1), (97, .iconst 4, 1), (98, .if_icmp .lt 8, 3), (101, .iload 4, 2), (103, .ifCond .eq 7, 3), (106, .iconst 2, 1), (107, .goto 4, 3), (110, .iconst 0, 1), (111, .iload 4, 2), (113, .ifCond .eq 8, 3), (116, .bipush 8, 2), (118, .goto 4, 3), (121, .iconst 0, 1), (122, .ior, 1), (123, .ireturn, 1)], 5, 0, 0)
def lm4 : Me := ("peek", "(JIIII)I", 5, 1, [(0, .lload_n 0, 1), (1, .iload 5, 2), (3, .bipush 8, 2), (5, .imul, 1), (6, .lushr, 1), (7, .ldc2_w 38, 3), (10, .land, 1), (11, .l2i, 1), (12, .istore 6, 2), (14, .iload 6, 2), (16, .ifCond .ne 5, 3), (19, .iconst (-1), 1), (20, .ireturn, 1), (21, .iload 6, 2), (23, .bipush 64, 2), (25, .iand, 1), (26, .ifCond .eq 5, 3), (29, .iconst 0, 1), (30, .ireturn, 1), (31, .iload 6, 2), (33, .bipush 16, 2), (35, .iand, 1), (36, .ifCond .eq 13, 3), (39, .iload_n 2, 1), (40, .iload 5, 2), (42, .iconst 4, 1), (43, .imul, 1), (44, .iushr, 1), (45, .bipush 15, 2), (47, .iand, 1), (48, .ireturn, 1), (49, .iload_n 3, 1), (50, .iload 4, 2), (52, .iload 5, 2), (54, .iconst 3, 1), (55, .iand, 1), (56, .invokestatic 12, 3), (59, .iload 6, 2), (61, .iconst 3, 1), (62, .iand, 1), (63, .bipush 12, 2), (65, .ior, 1), (66, .iand, 1), (67, .ireturn, 1)], 7, 1, 16)
def lm5 : Me := ("edge", "(JIIIIII)I", 7, 1, [(0, .iconst 0, 1), (1, .istore 8, 2), (3, .iload 8, 2), (5, .iconst 4, 1), (6, .if_icmp .ge 147, 3), (9, .iconst 2, 1), (10, .iload 5, 2), (12, .imul, 1), (13, .iload 8, 2), (15, .iconst 1, 1), (16, .iand, 1), (17, .iadd, 1), (18, .istore 9, 2), (20, .iload 8, 2), (22, .iconst 1, 1), (23, .ishr, 1), (24, .iconst 4, 1), (25, .imul, 1), (26, .iload 9, 2), (28, .iadd, 1), (29, .istore 10, 2), (31, .iload_n 3, 1), (32, .iload 4, 2), (34, .iload 9, 2), (36, .invokestatic 12, 3), (39, .istore 11, 2), (41, .lload_n 0, 1), (42, .iload 10, 2), (44, .bipush 8, 2), (46, .imul, 1), (47, .lushr, 1), (48, .ldc2_w 38, 3), (51, .land, 1), (52, .l2i, 1), (53, .istore 12, 2), (55, .iload 11, 2), (57, .ifCond .lt 90, 3), (60, .iload 12, 2), (62, .ifCond .eq 85, 3), (65, .iload 12, 2), (67, .bipush 64, 2), (69, .iand, 1), (70, .ifCond .ne 77, 3), (73, .iload 12, 2), (75, .bipush 16, 2), (77, .iand, 1), (78, .ifCond .eq 69, 3), (81, .iload 8, 2), (83, .iconst 1, 1), (84, .iand, 1), (85, .ifCond .ne 8, 3), (88, .iload 6, 2), (90, .goto 5, 3), (93, .iload 7, 2), (95, .istore 13, 2), (97, .iload_n 2, 1), (98, .iload 10, 2), (100, .iconst 4, 1), (101, .imul, 1), (102, .iushr, 1), (103, .bipush 15, 2), (105, .iand, 1), (106, .iload 11, 2), (108, .iand, 1), (109, .iload 11, 2), (111, .iload 13, 2), (113, .iconst (-1), 1), (114, .ixor, 1), (115, .iand, 1), (116, .iload 12, 2), (118, .iconst 3, 1), (119, .iand, 1), (120, .bipush 12, 2), (122, .ior, 1), (123, .iand, 1), (124, .ior, 1), (125, .istore 14, 2), (127, .iload_n 2, 1), (128, .bipush 15, 2), (130, .iload 10, 2), (132, .iconst 4, 1), (133, .imul, 1), (134, .ishl, 1), (135, .iconst (-1), 1), (136, .ixor, 1), (137, .iand, 1), (138, .iload 14, 2), (140, .iload 10, 2), (142, .iconst 4, 1), (143, .imul, 1), (144, .ishl, 1), (145, .ior, 1), (146, .istore_n 2, 1), (147, .iinc 8 1, 3), (150, .goto (-147), 3), (153, .iload_n 2, 1), (154, .ireturn, 1)], 15, 1, 16)
def lm6 : Me := ("check", "(LReadinessPoller;IIJIIII)Z", 8, 2, [(0, .iconst 0, 1), (1, .istore 9, 2), (3, .iload 9, 2), (5, .iconst 3, 1), (6, .if_icmp .ge 54, 3), (9, .iload 9, 2), (11, .iconst 2, 1), (12, .if_icmp .ge 26, 3), (15, .iload_n 1, 1), (16, .iconst 2, 1), (17, .iload 9, 2), (19, .imul, 1), (20, .ishr, 1), (21, .iconst 3, 1), (22, .iand, 1), (23, .ifCond .eq 15, 3), (26, .iload_n 2, 1), (27, .iconst 4, 1), (28, .iload 9, 2), (30, .imul, 1), (31, .ishr, 1), (32, .bipush 15, 2), (34, .iand, 1), (35, .goto 4, 3), (38, .iconst (-1), 1), (39, .istore 10, 2), (41, .aload_n 0, 1), (42, .iload 9, 2), (44, .invokevirtual 69, 3), (47, .iload 10, 2), (49, .if_icmp .eq 5, 3), (52, .iconst 0, 1), (53, .ireturn, 1), (54, .iinc 9 1, 3), (57, .goto (-54), 3), (60, .iconst (-1), 1), (61, .istore 9, 2), (63, .iload 9, 2), (65, .iconst 5, 1), (66, .if_icmp .ge 27, 3), (69, .aload_n 0, 1), (70, .iload 9, 2), (72, .invokevirtual 72, 3), (75, .iload_n 1, 1), (76, .iload_n 2, 1), (77, .iload 9, 2), (79, .invokestatic 12, 3), (82, .if_icmp .eq 5, 3), (85, .iconst 0, 1), (86, .ireturn, 1), (87, .iinc 9 1, 3), (90, .goto (-27), 3), (93, .iconst 0, 1), (94, .istore 9, 2), (96, .iconst 0, 1), (97, .istore 10, 2), (99, .iconst 0, 1), (100, .istore 11, 2), (102, .iload 11, 2), (104, .bipush 8, 2), (106, .if_icmp .ge 103, 3), (109, .lload_n 3, 1), (110, .iload 11, 2), (112, .bipush 8, 2), (114, .imul, 1), (115, .lushr, 1), (116, .ldc2_w 38, 3), (119, .land, 1), (120, .l2i, 1), (121, .istore 12, 2), (123, .lload_n 3, 1), (124, .iload 5, 2), (126, .iload_n 1, 1), (127, .iload_n 2, 1), (128, .iload 11, 2), (130, .invokestatic 55, 3), (133, .istore 13, 2), (135, .aload_n 0, 1), (136, .iload 11, 2), (138, .iconst 2, 1), (139, .ishr, 1), (140, .iload 11, 2), (142, .iconst 3, 1), (143, .iand, 1), (144, .invokevirtual 75, 3), (147, .iload 12, 2), (149, .ifCond .ne 7, 3), (152, .iconst (-1), 1), (153, .goto 8, 3), (156, .iload 12, 2), (158, .bipush 127, 2), (160, .iand, 1), (161, .if_icmp .ne 20, 3), (164, .aload_n 0, 1), (165, .iload 11, 2), (167, .iconst 2, 1), (168, .ishr, 1), (169, .iload 11, 2), (171, .iconst 3, 1), (172, .iand, 1), (173, .invokevirtual 78, 3), (176, .iload 13, 2), (178, .if_icmp .eq 5, 3), (181, .iconst 0, 1), (182, .ireturn, 1), (183, .iload 13, 2), (185, .ifCond .le 18, 3), (188, .iload 11, 2), (190, .iconst 4, 1), (191, .if_icmp .ge 9, 3), (194, .iinc 9 1, 3), (197, .goto 6, 3), (200, .iinc 10 1, 3), (203, .iinc 11 1, 3), (206, .goto (-104), 3), (209, .aload_n 0, 1), (210, .iconst 0, 1), (211, .invokevirtual 81, 3), (214, .iload 9, 2), (216, .if_icmp .ne 22, 3), (219, .aload_n 0, 1), (220, .iconst 1, 1), (221, .invokevirtual 81, 3), (224, .iload 10, 2), (226, .if_icmp .ne 12, 3), (229, .aload_n 0, 1), (230, .iconst 2, 1), (231, .invokevirtual 81, 3), (234, .iconst (-1), 1), (235, .if_icmp .eq 5, 3), (238, .iconst 0, 1), (239, .ireturn, 1), (240, .iconst (-1), 1), (241, .istore 11, 2), (243, .iload 11, 2), (245, .bipush 17, 2), (247, .if_icmp .ge 89, 3), (250, .iload 11, 2), (252, .ifCond .lt 23, 3), (255, .iload 11, 2), (257, .iload 6, 2), (259, .if_icmp .ge 16, 3), (262, .iload 7, 2), (264, .iload 11, 2), (266, .iconst 4, 1), (267, .imul, 1), (268, .ishr, 1), (269, .bipush 15, 2), (271, .iand, 1), (272, .goto 4, 3), (275, .iconst (-1), 1), (276, .istore 12, 2), (278, .iload 11, 2), (280, .ifCond .lt 23, 3), (283, .iload 11, 2), (285, .iload 6, 2), (287, .if_icmp .ge 16, 3), (290, .iload 8, 2), (292, .iload 11, 2), (294, .iconst 4, 1), (295, .imul, 1), (296, .ishr, 1), (297, .bipush 15, 2), (299, .iand, 1), (300, .goto 4, 3), (303, .iconst 0, 1), (304, .istore 13, 2), (306, .aload_n 0, 1), (307, .iload 11, 2), (309, .invokevirtual 84, 3), (312, .iload 12, 2), (314, .if_icmp .ne 14, 3), (317, .aload_n 0, 1), (318, .iload 11, 2), (320, .invokevirtual 87, 3), (323, .iload 13, 2), (325, .if_icmp .eq 5, 3), (328, .iconst 0, 1), (329, .ireturn, 1), (330, .iinc 11 1, 3), (333, .goto (-90), 3), (336, .iconst 1, 1), (337, .ireturn, 1)], 14, 3, 46)
def QQ : Lw := ("ReadinessPollerL6", [(12, 3), (30, 5), (55, 4), (65, 6)], [(18, 15), (26, 16), (34, 17), (40, 18), (43, 19), (46, 20), (49, 21), (52, 22), (69, 26), (72, 27), (75, 28), (78, 29), (81, 30), (84, 24), (87, 25)], 9, 7, 15, [(22, .long (4294967295 : Int64)), (24, .long (-1 : Int64)), (38, .long (255 : Int64)), (59, .long (32 : Int64)), (61, .long (64 : Int64)), (63, .long (48 : Int64))], [(0, lm0), (3, lm3), (4, lm4), (5, lm5), (6, lm6)], 32, 1024)
set_option maxRecDepth 100000
set_option maxHeartbeats 1000000
theorem dk_c0 : chk prog_1_method_1_code cm0.cd = true := by decide +kernel
theorem dk_c2 : chk prog_1_method_2_code cm2.cd = true := by decide +kernel
theorem dk_l3 : chk method_3_code lm3.cd = true := by decide +kernel
theorem dk_c18 : chk prog_1_method_18_code cm18.cd = true := by decide +kernel
theorem dk_c3 : chk prog_1_method_3_code cm3.cd = true := by decide +kernel
theorem dk_l6 : chk method_6_code lm6.cd = true := by decide +kernel
theorem dk_c26 : chk prog_1_method_26_code cm26.cd = true := by decide +kernel
theorem dk_c27 : chk prog_1_method_27_code cm27.cd = true := by decide +kernel
theorem dk_l4 : chk method_4_code lm4.cd = true := by decide +kernel
theorem dk_c28 : chk prog_1_method_28_code cm28.cd = true := by decide +kernel
theorem dk_c14 : chk prog_1_method_14_code cm14.cd = true := by decide +kernel
theorem dk_c6 : chk prog_1_method_6_code cm6.cd = true := by decide +kernel
theorem dk_c29 : chk prog_1_method_29_code cm29.cd = true := by decide +kernel
theorem dk_c30 : chk prog_1_method_30_code cm30.cd = true := by decide +kernel
theorem dk_c8 : chk prog_1_method_8_code cm8.cd = true := by decide +kernel
theorem dk_c24 : chk prog_1_method_24_code cm24.cd = true := by decide +kernel
theorem dk_c25 : chk prog_1_method_25_code cm25.cd = true := by decide +kernel
theorem dk_c16 : chk prog_1_method_16_code cm16.cd = true := by decide +kernel
theorem dk_c15 : chk prog_1_method_15_code cm15.cd = true := by decide +kernel
theorem dk_c4 : chk prog_1_method_4_code cm4.cd = true := by decide +kernel
theorem dk_c12 : chk prog_1_method_12_code cm12.cd = true := by decide +kernel
theorem dk_c11 : chk prog_1_method_11_code cm11.cd = true := by decide +kernel
theorem dk_c13 : chk prog_1_method_13_code cm13.cd = true := by decide +kernel
theorem dk_l5 : chk method_5_code lm5.cd = true := by decide +kernel
theorem dk_c17 : chk prog_1_method_17_code cm17.cd = true := by decide +kernel
theorem dk_c21 : chk prog_1_method_21_code cm21.cd = true := by decide +kernel
theorem dk_c22 : chk prog_1_method_22_code cm22.cd = true := by decide +kernel
theorem dk_c20 : chk prog_1_method_20_code cm20.cd = true := by decide +kernel
theorem dk_c19 : chk prog_1_method_19_code cm19.cd = true := by decide +kernel
theorem dk_c7 : chk prog_1_method_7_code cm7.cd = true := by decide +kernel
theorem dk_c10 : chk prog_1_method_10_code cm10.cd = true := by decide +kernel
theorem dk_c9 : chk prog_1_method_9_code cm9.cd = true := by decide +kernel
theorem dk_c5 : chk prog_1_method_5_code cm5.cd = true := by decide +kernel
theorem dk_c23 : chk prog_1_method_23_code cm23.cd = true := by decide +kernel
theorem chk_ap {bytes : ByteArray} : ∀ (x y : Cd), chk bytes x = true → chk bytes y = true → chk bytes (x ++ y) = true
  | [], y, _, h => h
  | (pc, i, n) :: r, y, h, k => by
    simp only [List.cons_append, chk, Bool.and_eq_true] at h ⊢
    exact ⟨h.1, chk_ap r y h.2 k⟩
theorem chk_td {bytes : ByteArray} {l : Cd} (n : Nat) (h : chk bytes (l.take n) = true) (k : chk bytes (l.drop n) = true) : chk bytes l = true := by
  have := chk_ap _ _ h k
  rwa [List.take_append_drop] at this
theorem dk_l0_0 : chk code (lm0.cd.take 80) = true := by decide +kernel
theorem dk_l0_1 : chk code ((lm0.cd.drop 80).take 80) = true := by decide +kernel
theorem dk_l0_2 : chk code (((lm0.cd.drop 80).drop 80).take 80) = true := by decide +kernel
theorem dk_l0_3 : chk code ((((lm0.cd.drop 80).drop 80).drop 80).take 80) = true := by decide +kernel
theorem dk_l0_4 : chk code (((((lm0.cd.drop 80).drop 80).drop 80).drop 80).take 80) = true := by decide +kernel
theorem dk_l0_5 : chk code ((((((lm0.cd.drop 80).drop 80).drop 80).drop 80).drop 80).take 80) = true := by decide +kernel
theorem dk_l0_6 : chk code (((((((lm0.cd.drop 80).drop 80).drop 80).drop 80).drop 80).drop 80).take 80) = true := by decide +kernel
theorem dk_l0_7 : chk code ((((((((lm0.cd.drop 80).drop 80).drop 80).drop 80).drop 80).drop 80).drop 80).take 80) = true := by decide +kernel
theorem dk_l0_8 : chk code ((((((((lm0.cd.drop 80).drop 80).drop 80).drop 80).drop 80).drop 80).drop 80).drop 80) = true := by decide +kernel
theorem dk_l0 : chk code lm0.cd = true := (chk_td 80 dk_l0_0 (chk_td 80 dk_l0_1 (chk_td 80 dk_l0_2 (chk_td 80 dk_l0_3 (chk_td 80 dk_l0_4 (chk_td 80 dk_l0_5 (chk_td 80 dk_l0_6 (chk_td 80 dk_l0_7 dk_l0_8))))))))
theorem pk_c0 : parseMethodDescriptor "(III)V" = some ⟨[.int, .int, .int], none⟩ := by decide +kernel
theorem pk_c2 : parseMethodDescriptor "(III)I" = some ⟨[.int, .int, .int], some .int⟩ := by decide +kernel
theorem pk_l3 : parseMethodDescriptor "(III)I" = some ⟨[.int, .int, .int], some .int⟩ := by decide +kernel
theorem pk_c18 : parseMethodDescriptor "(I)I" = some ⟨[.int], some .int⟩ := by decide +kernel
theorem pk_c3 : parseMethodDescriptor "(I)Z" = some ⟨[.int], some .boolean⟩ := by decide +kernel
theorem pk_l6 : parseMethodDescriptor "(LReadinessPoller;IIJIIII)Z" = some ⟨[.object "ReadinessPoller", .int, .int, .long, .int, .int, .int, .int], some .boolean⟩ := by decide +kernel
theorem pk_c26 : parseMethodDescriptor "(I)I" = some ⟨[.int], some .int⟩ := by decide +kernel
theorem pk_c27 : parseMethodDescriptor "(I)I" = some ⟨[.int], some .int⟩ := by decide +kernel
theorem pk_l4 : parseMethodDescriptor "(JIIII)I" = some ⟨[.long, .int, .int, .int, .int], some .int⟩ := by decide +kernel
theorem pk_c28 : parseMethodDescriptor "(II)I" = some ⟨[.int, .int], some .int⟩ := by decide +kernel
theorem pk_c14 : parseMethodDescriptor "(II)I" = some ⟨[.int, .int], some .int⟩ := by decide +kernel
theorem pk_c6 : parseMethodDescriptor "(I)Z" = some ⟨[.int], some .boolean⟩ := by decide +kernel
theorem pk_c29 : parseMethodDescriptor "(II)I" = some ⟨[.int, .int], some .int⟩ := by decide +kernel
theorem pk_c30 : parseMethodDescriptor "(I)I" = some ⟨[.int], some .int⟩ := by decide +kernel
theorem pk_c8 : parseMethodDescriptor "(II)I" = some ⟨[.int, .int], some .int⟩ := by decide +kernel
theorem pk_c24 : parseMethodDescriptor "(I)I" = some ⟨[.int], some .int⟩ := by decide +kernel
theorem pk_c25 : parseMethodDescriptor "(I)I" = some ⟨[.int], some .int⟩ := by decide +kernel
theorem pk_c16 : parseMethodDescriptor "(II)I" = some ⟨[.int, .int], some .int⟩ := by decide +kernel
theorem pk_c15 : parseMethodDescriptor "()I" = some ⟨[], some .int⟩ := by decide +kernel
theorem pk_c4 : parseMethodDescriptor "(I)I" = some ⟨[.int], some .int⟩ := by decide +kernel
theorem pk_c12 : parseMethodDescriptor "(I)V" = some ⟨[.int], none⟩ := by decide +kernel
theorem pk_c11 : parseMethodDescriptor "(I)V" = some ⟨[.int], none⟩ := by decide +kernel
theorem pk_c13 : parseMethodDescriptor "(II)V" = some ⟨[.int, .int], none⟩ := by decide +kernel
theorem pk_l5 : parseMethodDescriptor "(JIIIIII)I" = some ⟨[.long, .int, .int, .int, .int, .int, .int], some .int⟩ := by decide +kernel
theorem pk_c17 : parseMethodDescriptor "(I)I" = some ⟨[.int], some .int⟩ := by decide +kernel
theorem pk_c21 : parseMethodDescriptor "(II)I" = some ⟨[.int, .int], some .int⟩ := by decide +kernel
theorem pk_c22 : parseMethodDescriptor "(II)I" = some ⟨[.int, .int], some .int⟩ := by decide +kernel
theorem pk_c20 : parseMethodDescriptor "(III)I" = some ⟨[.int, .int, .int], some .int⟩ := by decide +kernel
theorem pk_c19 : parseMethodDescriptor "(III)I" = some ⟨[.int, .int, .int], some .int⟩ := by decide +kernel
theorem pk_c7 : parseMethodDescriptor "(I)Z" = some ⟨[.int], some .boolean⟩ := by decide +kernel
theorem pk_c10 : parseMethodDescriptor "(III)V" = some ⟨[.int, .int, .int], none⟩ := by decide +kernel
theorem pk_c9 : parseMethodDescriptor "(II)I" = some ⟨[.int, .int], some .int⟩ := by decide +kernel
theorem pk_c5 : parseMethodDescriptor "(I)I" = some ⟨[.int], some .int⟩ := by decide +kernel
theorem pk_c23 : parseMethodDescriptor "(I)V" = some ⟨[.int], none⟩ := by decide +kernel
theorem lkC (Z : State) (a0 : Array Value) (hw : ∀ d ∈ tables_1, d.before a0 Z = true) : LinkC PP Z a0 :=
  ⟨⟨⟨15, (hw _ (List.mem_of_getElem? (i := 1) rfl))⟩, (hw _ (List.mem_of_getElem? (i := 2) rfl))⟩,
   asc_all (⟨by intro z h; obtain rfl : ("readOpen", "[Z", 3, false) = z := Option.some.inj h; exact (hw _ (List.mem_of_getElem? (i := 10) rfl)), by intro z h; obtain rfl : ("writeOpen", "[Z", 4, false) = z := Option.some.inj h; exact (hw _ (List.mem_of_getElem? (i := 12) rfl)), by intro z h; obtain rfl : ("buf", "[I", 5, false) = z := Option.some.inj h; exact (hw _ (List.mem_of_getElem? (i := 15) rfl)), by intro z h; obtain rfl : ("head", "[I", 6, false) = z := Option.some.inj h; exact (hw _ (List.mem_of_getElem? (i := 17) rfl)), by intro z h; obtain rfl : ("count", "[I", 7, false) = z := Option.some.inj h; exact (hw _ (List.mem_of_getElem? (i := 19) rfl)), by intro z h; obtain rfl : ("regged", "[Z", 8, false) = z := Option.some.inj h; exact (hw _ (List.mem_of_getElem? (i := 21) rfl)), by intro z h; obtain rfl : ("word", "[I", 9, false) = z := Option.some.inj h; exact (hw _ (List.mem_of_getElem? (i := 23) rfl)), by intro z h; obtain rfl : ("enabled", "[Z", 10, false) = z := Option.some.inj h; exact (hw _ (List.mem_of_getElem? (i := 25) rfl)), by intro z h; obtain rfl : ("pend", "[I", 11, false) = z := Option.some.inj h; exact (hw _ (List.mem_of_getElem? (i := 27) rfl)), by intro z h; obtain rfl : ("resFd", "[I", 12, false) = z := Option.some.inj h; exact (hw _ (List.mem_of_getElem? (i := 29) rfl)), by intro z h; obtain rfl : ("resMask", "[I", 13, false) = z := Option.some.inj h; exact (hw _ (List.mem_of_getElem? (i := 31) rfl)), by intro z h; obtain rfl : ("nPipes", "I", 0, false) = z := Option.some.inj h; exact (hw _ (List.mem_of_getElem? (i := 37) rfl)), by intro z h; obtain rfl : ("cap", "I", 0, false) = z := Option.some.inj h; exact (hw _ (List.mem_of_getElem? (i := 39) rfl)), by intro z h; obtain rfl : ("nPolls", "I", 0, false) = z := Option.some.inj h; exact (hw _ (List.mem_of_getElem? (i := 41) rfl)), by intro z h; obtain rfl : ("resN", "I", 0, false) = z := Option.some.inj h; exact (hw _ (List.mem_of_getElem? (i := 43) rfl)), trivial⟩),
   asc_all (⟨(hw _ (List.mem_of_getElem? (i := 38) rfl)), (hw _ (List.mem_of_getElem? (i := 40) rfl)), (hw _ (List.mem_of_getElem? (i := 42) rfl)), (hw _ (List.mem_of_getElem? (i := 11) rfl)), (hw _ (List.mem_of_getElem? (i := 13) rfl)), (hw _ (List.mem_of_getElem? (i := 16) rfl)), (hw _ (List.mem_of_getElem? (i := 18) rfl)), (hw _ (List.mem_of_getElem? (i := 20) rfl)), (hw _ (List.mem_of_getElem? (i := 22) rfl)), (hw _ (List.mem_of_getElem? (i := 24) rfl)), (hw _ (List.mem_of_getElem? (i := 26) rfl)), (hw _ (List.mem_of_getElem? (i := 28) rfl)), (hw _ (List.mem_of_getElem? (i := 30) rfl)), (hw _ (List.mem_of_getElem? (i := 32) rfl)), (hw _ (List.mem_of_getElem? (i := 44) rfl)), trivial⟩),
   asc_all (⟨(by decide +kernel), (by decide +kernel), (by decide +kernel), (by decide +kernel), (by decide +kernel), (by decide +kernel), (by decide +kernel), (by decide +kernel), (by decide +kernel), (by decide +kernel), (by decide +kernel), (by decide +kernel), (by decide +kernel), (by decide +kernel), (by decide +kernel), trivial⟩),
   dst_ok (by decide +kernel),
   lst_all (⟨⟨by decide, (hw _ (List.mem_of_getElem? (i := 9) rfl))⟩, ⟨by decide, (hw _ (List.mem_of_getElem? (i := 9) rfl))⟩, ⟨by decide, (hw _ (List.mem_of_getElem? (i := 14) rfl))⟩, ⟨by decide, (hw _ (List.mem_of_getElem? (i := 14) rfl))⟩, ⟨by decide, (hw _ (List.mem_of_getElem? (i := 14) rfl))⟩, ⟨by decide, (hw _ (List.mem_of_getElem? (i := 9) rfl))⟩, ⟨by decide, (hw _ (List.mem_of_getElem? (i := 14) rfl))⟩, ⟨by decide, (hw _ (List.mem_of_getElem? (i := 9) rfl))⟩, ⟨by decide, (hw _ (List.mem_of_getElem? (i := 14) rfl))⟩, ⟨by decide, (hw _ (List.mem_of_getElem? (i := 14) rfl))⟩, ⟨by decide, (hw _ (List.mem_of_getElem? (i := 14) rfl))⟩, trivial⟩),
   asc_all (trivial),
   ⟨(hw _ (List.mem_of_getElem? (i := 6) rfl)), (hw _ (List.mem_of_getElem? (i := 7) rfl)), (hw _ (List.mem_of_getElem? (i := 8) rfl))⟩,
   asc_all (⟨⟨prog_1_method_1_code, [.int, .int, .int], (hw _ (List.mem_of_getElem? (i := 5) rfl)), chk_ok dk_c0, pk_c0, rfl⟩, ⟨prog_1_method_2_code, [.int, .int, .int], (hw _ (List.mem_of_getElem? (i := 36) rfl)), chk_ok dk_c2, pk_c2, rfl⟩, ⟨prog_1_method_3_code, [.int], (hw _ (List.mem_of_getElem? (i := 57) rfl)), chk_ok dk_c3, pk_c3, rfl⟩, ⟨prog_1_method_4_code, [.int], (hw _ (List.mem_of_getElem? (i := 127) rfl)), chk_ok dk_c4, pk_c4, rfl⟩, ⟨prog_1_method_5_code, [.int], (hw _ (List.mem_of_getElem? (i := 183) rfl)), chk_ok dk_c5, pk_c5, rfl⟩, ⟨prog_1_method_6_code, [.int], (hw _ (List.mem_of_getElem? (i := 87) rfl)), chk_ok dk_c6, pk_c6, rfl⟩, ⟨prog_1_method_7_code, [.int], (hw _ (List.mem_of_getElem? (i := 171) rfl)), chk_ok dk_c7, pk_c7, rfl⟩, ⟨prog_1_method_8_code, [.int, .int], (hw _ (List.mem_of_getElem? (i := 101) rfl)), chk_ok dk_c8, pk_c8, rfl⟩, ⟨prog_1_method_9_code, [.int, .int], (hw _ (List.mem_of_getElem? (i := 179) rfl)), chk_ok dk_c9, pk_c9, rfl⟩, ⟨prog_1_method_10_code, [.int, .int, .int], (hw _ (List.mem_of_getElem? (i := 175) rfl)), chk_ok dk_c10, pk_c10, rfl⟩, ⟨prog_1_method_11_code, [.int], (hw _ (List.mem_of_getElem? (i := 135) rfl)), chk_ok dk_c11, pk_c11, rfl⟩, ⟨prog_1_method_12_code, [.int], (hw _ (List.mem_of_getElem? (i := 131) rfl)), chk_ok dk_c12, pk_c12, rfl⟩, ⟨prog_1_method_13_code, [.int, .int], (hw _ (List.mem_of_getElem? (i := 139) rfl)), chk_ok dk_c13, pk_c13, rfl⟩, ⟨prog_1_method_14_code, [.int, .int], (hw _ (List.mem_of_getElem? (i := 83) rfl)), chk_ok dk_c14, pk_c14, rfl⟩, ⟨prog_1_method_15_code, [], (hw _ (List.mem_of_getElem? (i := 121) rfl)), chk_ok dk_c15, pk_c15, rfl⟩, ⟨prog_1_method_16_code, [.int, .int], (hw _ (List.mem_of_getElem? (i := 116) rfl)), chk_ok dk_c16, pk_c16, rfl⟩, ⟨prog_1_method_17_code, [.int], (hw _ (List.mem_of_getElem? (i := 147) rfl)), chk_ok dk_c17, pk_c17, rfl⟩, ⟨prog_1_method_18_code, [.int], (hw _ (List.mem_of_getElem? (i := 53) rfl)), chk_ok dk_c18, pk_c18, rfl⟩, ⟨prog_1_method_19_code, [.int, .int, .int], (hw _ (List.mem_of_getElem? (i := 167) rfl)), chk_ok dk_c19, pk_c19, rfl⟩, ⟨prog_1_method_20_code, [.int, .int, .int], (hw _ (List.mem_of_getElem? (i := 162) rfl)), chk_ok dk_c20, pk_c20, rfl⟩, ⟨prog_1_method_21_code, [.int, .int], (hw _ (List.mem_of_getElem? (i := 152) rfl)), chk_ok dk_c21, pk_c21, rfl⟩, ⟨prog_1_method_22_code, [.int, .int], (hw _ (List.mem_of_getElem? (i := 157) rfl)), chk_ok dk_c22, pk_c22, rfl⟩, ⟨prog_1_method_23_code, [.int], (hw _ (List.mem_of_getElem? (i := 187) rfl)), chk_ok dk_c23, pk_c23, rfl⟩, ⟨prog_1_method_24_code, [.int], (hw _ (List.mem_of_getElem? (i := 106) rfl)), chk_ok dk_c24, pk_c24, rfl⟩, ⟨prog_1_method_25_code, [.int], (hw _ (List.mem_of_getElem? (i := 111) rfl)), chk_ok dk_c25, pk_c25, rfl⟩, ⟨prog_1_method_26_code, [.int], (hw _ (List.mem_of_getElem? (i := 65) rfl)), chk_ok dk_c26, pk_c26, rfl⟩, ⟨prog_1_method_27_code, [.int], (hw _ (List.mem_of_getElem? (i := 70) rfl)), chk_ok dk_c27, pk_c27, rfl⟩, ⟨prog_1_method_28_code, [.int, .int], (hw _ (List.mem_of_getElem? (i := 79) rfl)), chk_ok dk_c28, pk_c28, rfl⟩, ⟨prog_1_method_29_code, [.int, .int], (hw _ (List.mem_of_getElem? (i := 92) rfl)), chk_ok dk_c29, pk_c29, rfl⟩, ⟨prog_1_method_30_code, [.int], (hw _ (List.mem_of_getElem? (i := 97) rfl)), chk_ok dk_c30, pk_c30, rfl⟩, trivial⟩),
   asc_all (⟨by intro z h; obtain rfl : cm2 = z := Option.some.inj h; exact ⟨(hw _ (List.mem_of_getElem? (i := 33) rfl)), (hw _ (List.mem_of_getElem? (i := 34) rfl)), Or.inl (hw _ (List.mem_of_getElem? (i := 35) rfl))⟩, by intro z h; obtain rfl : cm4 = z := Option.some.inj h; exact ⟨(hw _ (List.mem_of_getElem? (i := 124) rfl)), (hw _ (List.mem_of_getElem? (i := 125) rfl)), Or.inl (hw _ (List.mem_of_getElem? (i := 126) rfl))⟩, by intro z h; obtain rfl : cm5 = z := Option.some.inj h; exact ⟨(hw _ (List.mem_of_getElem? (i := 180) rfl)), (hw _ (List.mem_of_getElem? (i := 181) rfl)), Or.inl (hw _ (List.mem_of_getElem? (i := 182) rfl))⟩, by intro z h; obtain rfl : cm8 = z := Option.some.inj h; exact ⟨(hw _ (List.mem_of_getElem? (i := 98) rfl)), (hw _ (List.mem_of_getElem? (i := 99) rfl)), Or.inl (hw _ (List.mem_of_getElem? (i := 100) rfl))⟩, by intro z h; obtain rfl : cm11 = z := Option.some.inj h; exact ⟨(hw _ (List.mem_of_getElem? (i := 132) rfl)), (hw _ (List.mem_of_getElem? (i := 133) rfl)), Or.inl (hw _ (List.mem_of_getElem? (i := 134) rfl))⟩, by intro z h; obtain rfl : cm3 = z := Option.some.inj h; exact ⟨(hw _ (List.mem_of_getElem? (i := 54) rfl)), (hw _ (List.mem_of_getElem? (i := 55) rfl)), Or.inl (hw _ (List.mem_of_getElem? (i := 56) rfl))⟩, by intro z h; obtain rfl : cm6 = z := Option.some.inj h; exact ⟨(hw _ (List.mem_of_getElem? (i := 84) rfl)), (hw _ (List.mem_of_getElem? (i := 85) rfl)), Or.inl (hw _ (List.mem_of_getElem? (i := 86) rfl))⟩, by intro z h; obtain rfl : cm13 = z := Option.some.inj h; exact ⟨(hw _ (List.mem_of_getElem? (i := 136) rfl)), (hw _ (List.mem_of_getElem? (i := 137) rfl)), Or.inl (hw _ (List.mem_of_getElem? (i := 138) rfl))⟩, by intro z h; obtain rfl : cm12 = z := Option.some.inj h; exact ⟨(hw _ (List.mem_of_getElem? (i := 128) rfl)), (hw _ (List.mem_of_getElem? (i := 129) rfl)), Or.inl (hw _ (List.mem_of_getElem? (i := 130) rfl))⟩, by intro z h; obtain rfl : cm7 = z := Option.some.inj h; exact ⟨(hw _ (List.mem_of_getElem? (i := 168) rfl)), (hw _ (List.mem_of_getElem? (i := 169) rfl)), Or.inl (hw _ (List.mem_of_getElem? (i := 170) rfl))⟩, by intro z h; obtain rfl : cm10 = z := Option.some.inj h; exact ⟨(hw _ (List.mem_of_getElem? (i := 172) rfl)), (hw _ (List.mem_of_getElem? (i := 173) rfl)), Or.inl (hw _ (List.mem_of_getElem? (i := 174) rfl))⟩, by intro z h; obtain rfl : cm9 = z := Option.some.inj h; exact ⟨(hw _ (List.mem_of_getElem? (i := 176) rfl)), (hw _ (List.mem_of_getElem? (i := 177) rfl)), Or.inl (hw _ (List.mem_of_getElem? (i := 178) rfl))⟩, by intro z h; obtain rfl : cm23 = z := Option.some.inj h; exact ⟨(hw _ (List.mem_of_getElem? (i := 184) rfl)), (hw _ (List.mem_of_getElem? (i := 185) rfl)), Or.inl (hw _ (List.mem_of_getElem? (i := 186) rfl))⟩, by intro z h; obtain rfl : cm14 = z := Option.some.inj h; exact ⟨(hw _ (List.mem_of_getElem? (i := 80) rfl)), (hw _ (List.mem_of_getElem? (i := 81) rfl)), Or.inl (hw _ (List.mem_of_getElem? (i := 82) rfl))⟩, trivial⟩),
   (by first | (simp [plainName, overriddenIn]; done) | decide +kernel),
   (by decide),
   (by intro me h; obtain rfl : cm0 = me := Option.some.inj h; rfl)⟩
theorem lkL (Z : State) (a0 : Array Value) (hw : ∀ d ∈ tables_1, d.before a0 Z = true) : LinkL PP QQ Z a0 :=
  ⟨⟨(hw _ (List.mem_of_getElem? (i := 0) rfl)), (hw _ (List.mem_of_getElem? (i := 1) rfl))⟩,
   (by intro me h; obtain rfl : cm0 = me := Option.some.inj h; exact ⟨(hw _ (List.mem_of_getElem? (i := 3) rfl)), (hw _ (List.mem_of_getElem? (i := 4) rfl)), rfl⟩),
   asc_all (⟨by intro z h; obtain rfl : cm15 = z := Option.some.inj h; exact ⟨(hw _ (List.mem_of_getElem? (i := 117) rfl)), (hw _ (List.mem_of_getElem? (i := 118) rfl)), (hw _ (List.mem_of_getElem? (i := 119) rfl)), (hw _ (List.mem_of_getElem? (i := 120) rfl))⟩, by intro z h; obtain rfl : cm16 = z := Option.some.inj h; exact ⟨(hw _ (List.mem_of_getElem? (i := 112) rfl)), (hw _ (List.mem_of_getElem? (i := 113) rfl)), (hw _ (List.mem_of_getElem? (i := 114) rfl)), (hw _ (List.mem_of_getElem? (i := 115) rfl))⟩, by intro z h; obtain rfl : cm17 = z := Option.some.inj h; exact ⟨(hw _ (List.mem_of_getElem? (i := 143) rfl)), (hw _ (List.mem_of_getElem? (i := 144) rfl)), (hw _ (List.mem_of_getElem? (i := 145) rfl)), (hw _ (List.mem_of_getElem? (i := 146) rfl))⟩, by intro z h; obtain rfl : cm18 = z := Option.some.inj h; exact ⟨(hw _ (List.mem_of_getElem? (i := 49) rfl)), (hw _ (List.mem_of_getElem? (i := 50) rfl)), (hw _ (List.mem_of_getElem? (i := 51) rfl)), (hw _ (List.mem_of_getElem? (i := 52) rfl))⟩, by intro z h; obtain rfl : cm19 = z := Option.some.inj h; exact ⟨(hw _ (List.mem_of_getElem? (i := 163) rfl)), (hw _ (List.mem_of_getElem? (i := 164) rfl)), (hw _ (List.mem_of_getElem? (i := 165) rfl)), (hw _ (List.mem_of_getElem? (i := 166) rfl))⟩, by intro z h; obtain rfl : cm20 = z := Option.some.inj h; exact ⟨(hw _ (List.mem_of_getElem? (i := 158) rfl)), (hw _ (List.mem_of_getElem? (i := 159) rfl)), (hw _ (List.mem_of_getElem? (i := 160) rfl)), (hw _ (List.mem_of_getElem? (i := 161) rfl))⟩, by intro z h; obtain rfl : cm21 = z := Option.some.inj h; exact ⟨(hw _ (List.mem_of_getElem? (i := 148) rfl)), (hw _ (List.mem_of_getElem? (i := 149) rfl)), (hw _ (List.mem_of_getElem? (i := 150) rfl)), (hw _ (List.mem_of_getElem? (i := 151) rfl))⟩, by intro z h; obtain rfl : cm22 = z := Option.some.inj h; exact ⟨(hw _ (List.mem_of_getElem? (i := 153) rfl)), (hw _ (List.mem_of_getElem? (i := 154) rfl)), (hw _ (List.mem_of_getElem? (i := 155) rfl)), (hw _ (List.mem_of_getElem? (i := 156) rfl))⟩, by intro z h; obtain rfl : cm26 = z := Option.some.inj h; exact ⟨(hw _ (List.mem_of_getElem? (i := 61) rfl)), (hw _ (List.mem_of_getElem? (i := 62) rfl)), (hw _ (List.mem_of_getElem? (i := 63) rfl)), (hw _ (List.mem_of_getElem? (i := 64) rfl))⟩, by intro z h; obtain rfl : cm27 = z := Option.some.inj h; exact ⟨(hw _ (List.mem_of_getElem? (i := 66) rfl)), (hw _ (List.mem_of_getElem? (i := 67) rfl)), (hw _ (List.mem_of_getElem? (i := 68) rfl)), (hw _ (List.mem_of_getElem? (i := 69) rfl))⟩, by intro z h; obtain rfl : cm28 = z := Option.some.inj h; exact ⟨(hw _ (List.mem_of_getElem? (i := 75) rfl)), (hw _ (List.mem_of_getElem? (i := 76) rfl)), (hw _ (List.mem_of_getElem? (i := 77) rfl)), (hw _ (List.mem_of_getElem? (i := 78) rfl))⟩, by intro z h; obtain rfl : cm29 = z := Option.some.inj h; exact ⟨(hw _ (List.mem_of_getElem? (i := 88) rfl)), (hw _ (List.mem_of_getElem? (i := 89) rfl)), (hw _ (List.mem_of_getElem? (i := 90) rfl)), (hw _ (List.mem_of_getElem? (i := 91) rfl))⟩, by intro z h; obtain rfl : cm30 = z := Option.some.inj h; exact ⟨(hw _ (List.mem_of_getElem? (i := 93) rfl)), (hw _ (List.mem_of_getElem? (i := 94) rfl)), (hw _ (List.mem_of_getElem? (i := 95) rfl)), (hw _ (List.mem_of_getElem? (i := 96) rfl))⟩, by intro z h; obtain rfl : cm24 = z := Option.some.inj h; exact ⟨(hw _ (List.mem_of_getElem? (i := 102) rfl)), (hw _ (List.mem_of_getElem? (i := 103) rfl)), (hw _ (List.mem_of_getElem? (i := 104) rfl)), (hw _ (List.mem_of_getElem? (i := 105) rfl))⟩, by intro z h; obtain rfl : cm25 = z := Option.some.inj h; exact ⟨(hw _ (List.mem_of_getElem? (i := 107) rfl)), (hw _ (List.mem_of_getElem? (i := 108) rfl)), (hw _ (List.mem_of_getElem? (i := 109) rfl)), (hw _ (List.mem_of_getElem? (i := 110) rfl))⟩, trivial⟩),
   asc_all (⟨by intro z h; obtain rfl : lm3 = z := Option.some.inj h; exact ⟨(hw _ (List.mem_of_getElem? (i := 45) rfl)), (hw _ (List.mem_of_getElem? (i := 46) rfl)), (hw _ (List.mem_of_getElem? (i := 47) rfl))⟩, by intro z h; obtain rfl : lm5 = z := Option.some.inj h; exact ⟨(hw _ (List.mem_of_getElem? (i := 140) rfl)), (hw _ (List.mem_of_getElem? (i := 141) rfl)), (hw _ (List.mem_of_getElem? (i := 47) rfl))⟩, by intro z h; obtain rfl : lm4 = z := Option.some.inj h; exact ⟨(hw _ (List.mem_of_getElem? (i := 72) rfl)), (hw _ (List.mem_of_getElem? (i := 73) rfl)), (hw _ (List.mem_of_getElem? (i := 47) rfl))⟩, by intro z h; obtain rfl : lm6 = z := Option.some.inj h; exact ⟨(hw _ (List.mem_of_getElem? (i := 58) rfl)), (hw _ (List.mem_of_getElem? (i := 59) rfl)), (hw _ (List.mem_of_getElem? (i := 47) rfl))⟩, trivial⟩),
   asc_all (⟨(hw _ (List.mem_of_getElem? (i := 122) rfl)), (hw _ (List.mem_of_getElem? (i := 123) rfl)), (hw _ (List.mem_of_getElem? (i := 71) rfl)), (hw _ (List.mem_of_getElem? (i := 188) rfl)), (hw _ (List.mem_of_getElem? (i := 190) rfl)), (hw _ (List.mem_of_getElem? (i := 189) rfl)), trivial⟩),
   asc_all (⟨fun h => absurd rfl h, fun _ => ⟨method_3_code, [.int, .int, .int], (hw _ (List.mem_of_getElem? (i := 48) rfl)), chk_ok dk_l3, pk_l3, rfl⟩, fun _ => ⟨method_4_code, [.long, .int, .int, .int, .int], (hw _ (List.mem_of_getElem? (i := 74) rfl)), chk_ok dk_l4, pk_l4, rfl⟩, fun _ => ⟨method_5_code, [.long, .int, .int, .int, .int, .int, .int], (hw _ (List.mem_of_getElem? (i := 142) rfl)), chk_ok dk_l5, pk_l5, rfl⟩, fun _ => ⟨method_6_code, [.object "ReadinessPoller", .int, .int, .long, .int, .int, .int, .int], (hw _ (List.mem_of_getElem? (i := 60) rfl)), chk_ok dk_l6, pk_l6, rfl⟩, trivial⟩),
   (by first | (simp [plainName, overriddenIn]; done) | decide +kernel),
   (by decide)⟩
theorem c2_in (a1 : Int32) (a2 : Int32) (a3 : Int32) (s : St) (Q : Int32 → St → Prop) (h : ((a1 < a2) → Q a2 s) ∧ (¬ (a1 < a2) → ((a3 < a1) → Q a3 s) ∧ (¬ (a3 < a1) → Q a1 s))) : calI PP 2 11 [.ref 0, .int a1, .int a2, .int a3] s Q := by
  refine cal_of (me := cm2) (ls := [some (.ref 0), some (.int a1), some (.int a2), some (.int a3)]) rfl (Nat.le_of_ble_eq_true rfl) rfl ?_
  refine wpc_sl (n := 2) (c' := 11) (pc' := 2) (ls' := [some (.ref 0), some (.int a1), some (.int a2), some (.int a3)]) (st' := [.int a2, .int a1]) (s' := s) rfl ?_
  refine wpc_icmp (a := 7) (b := 5) rfl (by decide) rfl rfl (wpc_br (p := a1 < a2) ⟨fun hc213 => ?_, fun hc213 => ?_⟩)
  · have h214 := h.1 hc213
    refine wpc_sl (n := 1) (c' := 11) (pc' := 6) (ls' := [some (.ref 0), some (.int a1), some (.int a2), some (.int a3)]) (st' := [.int a2]) (s' := s) rfl ?_
    exact wpc_ret rfl rfl (fun q => absurd q (by decide)) rfl ⟨a2, rfl, h214⟩
  · have h215 := h.2 hc213
    refine wpc_sl (n := 2) (c' := 11) (pc' := 9) (ls' := [some (.ref 0), some (.int a1), some (.int a2), some (.int a3)]) (st' := [.int a3, .int a1]) (s' := s) rfl ?_
    refine wpc_icmp (a := 14) (b := 12) rfl (by decide) rfl rfl (wpc_br (p := a3 < a1) ⟨fun hc216 => ?_, fun hc216 => ?_⟩)
    · have h217 := h215.1 hc216
      refine wpc_sl (n := 1) (c' := 11) (pc' := 13) (ls' := [some (.ref 0), some (.int a1), some (.int a2), some (.int a3)]) (st' := [.int a3]) (s' := s) rfl ?_
      exact wpc_ret rfl rfl (fun q => absurd q (by decide)) rfl ⟨a3, rfl, h217⟩
    · have h218 := h215.2 hc216
      refine wpc_sl (n := 1) (c' := 11) (pc' := 15) (ls' := [some (.ref 0), some (.int a1), some (.int a2), some (.int a3)]) (st' := [.int a1]) (s' := s) rfl ?_
      exact wpc_ret rfl rfl (fun q => absurd q (by decide)) rfl ⟨a1, rfl, h218⟩
theorem c0_in (a1 : Int32) (a2 : Int32) (a3 : Int32) (s : St) (Q : St → Prop) (h : calI PP 2 11 [.ref 0, .int a1, .int (1 : Int32), .int (8 : Int32)] s (fun v205 s204 => calI PP 2 11 [.ref 0, .int a2, .int (1 : Int32), .int (16 : Int32)] (sI s204 0 17 v205) (fun v208 s207 => calI PP 2 11 [.ref 0, .int a3, .int (1 : Int32), .int (4 : Int32)] (sI s207 0 18 v208) (fun v211 s210 => Q (sI (sI s210 0 19 v211) 0 31 (0 : Int32)))))) : calV PP 0 0 [.ref 0, .int a1, .int a2, .int a3] s Q := by
  refine cal_of (me := cm0) (ls := [some (.ref 0), some (.int a1), some (.int a2), some (.int a3)]) rfl (Nat.le_of_ble_eq_true rfl) rfl ?_
  refine wpc_sl (n := 40) (c' := 11) (pc' := 99) (ls' := [some (.ref 0), some (.int a1), some (.int a2), some (.int a3)]) (st' := [.int (8 : Int32), .int (1 : Int32), .int a1, .ref 0, .ref 0]) (s' := s) rfl ?_
  refine wpc_callI (m' := 2) (me' := cm2) (as := [.int a1, .int (1 : Int32), .int (8 : Int32)]) (r := [.ref 0]) rfl rfl rfl rfl rfl ⟨by decide, (by first | decide | exact Nat.le_of_ble_eq_true rfl), (by first | decide | exact Nat.le_of_ble_eq_true rfl), rfl⟩ (calI.mono h fun v205 s204 h206 => ?_)
  refine wpc_sl (n := 6) (c' := 11) (pc' := 111) (ls' := [some (.ref 0), some (.int a1), some (.int a2), some (.int a3)]) (st' := [.int (16 : Int32), .int (1 : Int32), .int a2, .ref 0, .ref 0]) (s' := (sI s204 0 17 v205)) rfl ?_
  refine wpc_callI (m' := 2) (me' := cm2) (as := [.int a2, .int (1 : Int32), .int (16 : Int32)]) (r := [.ref 0]) rfl rfl rfl rfl rfl ⟨by decide, (by first | decide | exact Nat.le_of_ble_eq_true rfl), (by first | decide | exact Nat.le_of_ble_eq_true rfl), rfl⟩ (calI.mono h206 fun v208 s207 h209 => ?_)
  refine wpc_sl (n := 6) (c' := 11) (pc' := 122) (ls' := [some (.ref 0), some (.int a1), some (.int a2), some (.int a3)]) (st' := [.int (4 : Int32), .int (1 : Int32), .int a3, .ref 0, .ref 0]) (s' := (sI s207 0 18 v208)) rfl ?_
  refine wpc_callI (m' := 2) (me' := cm2) (as := [.int a3, .int (1 : Int32), .int (4 : Int32)]) (r := [.ref 0]) rfl rfl rfl rfl rfl ⟨by decide, (by first | decide | exact Nat.le_of_ble_eq_true rfl), (by first | decide | exact Nat.le_of_ble_eq_true rfl), rfl⟩ (calI.mono h209 fun v211 s210 h212 => ?_)
  refine wpc_sl (n := 4) (c' := 11) (pc' := 133) (ls' := [some (.ref 0), some (.int a1), some (.int a2), some (.int a3)]) (st' := []) (s' := (sI (sI s210 0 19 v211) 0 31 (0 : Int32))) rfl ?_
  exact wpc_ret rfl rfl (fun _ => rfl) rfl ⟨rfl, h212⟩
theorem l3W1_in (N : Nat) (sg : Nat → Int32) (a0 : Int32) (a1 : Int32) (a2 : Int32) (s : St) (Q : Int32 → Wd → Prop) (h : ((a2 < (0 : Int32)) → Q (-1 : Int32) (W1 s)) ∧ (¬ (a2 < (0 : Int32)) → (((3 : Int32) < a2) → Q (-1 : Int32) (W1 s)) ∧ (¬ ((3 : Int32) < a2) → ((((a0 >>> (a2 &&& 31)) &&& (1 : Int32)) = (0 : Int32)) → Q (-1 : Int32) (W1 s)) ∧ (¬ (((a0 >>> (a2 &&& 31)) &&& (1 : Int32)) = (0 : Int32)) → (((a2 &&& (1 : Int32)) = (0 : Int32)) → ∀ m231, m231 = (if ((a0 >>> ((a2 + (1 : Int32)) &&& 31)) &&& (1 : Int32)) = (0 : Int32) then (1 : Int32) else (0 : Int32)) → (∀ m234, m234 = (if (0 : Int32) < ((a1 >>> (((a2 >>> ((1 : Int32) &&& 31)) * (4 : Int32)) &&& 31)) &&& (15 : Int32)) then (1 : Int32) else (if m231 = (0 : Int32) then (0 : Int32) else (1 : Int32))) → (wplI PP QQ (some (N, sg)) 3 lm3 67 [none, none, none, none, some (.int m231)] [.int m234] (W1 s) Q))) ∧ (¬ ((a2 &&& (1 : Int32)) = (0 : Int32)) → ∀ m240, m240 = (if ((a0 >>> ((a2 - (1 : Int32)) &&& 31)) &&& (1 : Int32)) = (0 : Int32) then (1 : Int32) else (0 : Int32)) → (∀ m243, m243 = (if ((a1 >>> (((a2 >>> ((1 : Int32) &&& 31)) * (4 : Int32)) &&& 31)) &&& (15 : Int32)) < (4 : Int32) then (2 : Int32) else (if m240 = (0 : Int32) then (0 : Int32) else (2 : Int32))) → (wplI PP QQ (some (N, sg)) 3 lm3 111 [none, none, none, none, some (.int m240)] [.int m243] (W1 s) Q))))))) : lalI PP QQ (some (N, sg)) 3 [.int a0, .int a1, .int a2] (W1 s) Q := by
  refine lal_of (me := lm3) (ls := [some (.int a0), some (.int a1), some (.int a2), none, none]) rfl (Nat.le_of_ble_eq_true rfl) rfl ?_
  refine wpl_sl (n := 1) (pc' := 1) (ls' := [some (.int a0), some (.int a1), some (.int a2), none, none]) (st' := [.int a2]) rfl ?_
  refine wpl_if (a := 17) (b := 4) rfl (by decide) rfl rfl (wpl_br (p := a2 < (0 : Int32)) ⟨fun hc219 => ?_, fun hc219 => ?_⟩)
  · have h220 := h.1 hc219
    refine wpl_sl (n := 1) (pc' := 18) (ls' := [some (.int a0), some (.int a1), some (.int a2), none, none]) (st' := [.int (-1 : Int32)]) rfl ?_
    exact wpl_ret rfl rfl rfl ⟨(-1 : Int32), rfl, h220⟩
  · have h221 := h.2 hc219
    refine wpl_sl (n := 2) (pc' := 6) (ls' := [some (.int a0), some (.int a1), some (.int a2), none, none]) (st' := [.int (3 : Int32), .int a2]) rfl ?_
    refine wpl_icmp (a := 17) (b := 9) rfl (by decide) rfl rfl (wpl_br (p := (3 : Int32) < a2) ⟨fun hc222 => ?_, fun hc222 => ?_⟩)
    · have h223 := h221.1 hc222
      refine wpl_sl (n := 1) (pc' := 18) (ls' := [some (.int a0), some (.int a1), some (.int a2), none, none]) (st' := [.int (-1 : Int32)]) rfl ?_
      exact wpl_ret rfl rfl rfl ⟨(-1 : Int32), rfl, h223⟩
    · have h224 := h221.2 hc222
      refine wpl_sl (n := 5) (pc' := 14) (ls' := [some (.int a0), some (.int a1), some (.int a2), none, none]) (st' := [.int ((a0 >>> (a2 &&& 31)) &&& (1 : Int32))]) rfl ?_
      refine wpl_if (a := 19) (b := 17) rfl (by decide) rfl rfl (wpl_br (p := ((a0 >>> (a2 &&& 31)) &&& (1 : Int32)) = (0 : Int32)) ⟨fun hc225 => ?_, fun hc225 => ?_⟩)
      · have h226 := h224.1 hc225
        refine wpl_sl (n := 1) (pc' := 18) (ls' := [some (.int a0), some (.int a1), some (.int a2), none, none]) (st' := [.int (-1 : Int32)]) rfl ?_
        exact wpl_ret rfl rfl rfl ⟨(-1 : Int32), rfl, h226⟩
      · have h227 := h224.2 hc225
        refine wpl_sl (n := 5) (pc' := 24) (ls' := [some (.int a0), some (.int a1), some (.int a2), none, none]) (st' := [.int (4 : Int32), .int (a2 >>> ((1 : Int32) &&& 31)), .int a1]) rfl ?_
        refine wpl_sl (n := 5) (pc' := 30) (ls' := [some (.int a0), some (.int a1), some (.int a2), some (.int ((a1 >>> (((a2 >>> ((1 : Int32) &&& 31)) * (4 : Int32)) &&& 31)) &&& (15 : Int32))), none]) (st' := []) rfl ?_
        refine wpl_sl (n := 3) (pc' := 33) (ls' := [some (.int a0), some (.int a1), some (.int a2), some (.int ((a1 >>> (((a2 >>> ((1 : Int32) &&& 31)) * (4 : Int32)) &&& 31)) &&& (15 : Int32))), none]) (st' := [.int (a2 &&& (1 : Int32))]) rfl ?_
        refine wpl_if (a := 79) (b := 36) rfl (by decide) rfl rfl (wpl_br (p := (a2 &&& (1 : Int32)) = (0 : Int32)) ⟨fun hc228 => ?_, fun hc228 => ?_⟩)
        · have h229 := h227.1 hc228
          refine wpl_sl (n := 7) (pc' := 43) (ls' := [some (.int a0), some (.int a1), some (.int a2), some (.int ((a1 >>> (((a2 >>> ((1 : Int32) &&& 31)) * (4 : Int32)) &&& 31)) &&& (15 : Int32))), none]) (st' := [.int ((a0 >>> ((a2 + (1 : Int32)) &&& 31)) &&& (1 : Int32))]) rfl ?_
          have hm232 : ∀ m231, m231 = (if ((a0 >>> ((a2 + (1 : Int32)) &&& 31)) &&& (1 : Int32)) = (0 : Int32) then (1 : Int32) else (0 : Int32)) → wplI PP QQ (some (N, sg)) 3 lm3 51 [some (.int a0), some (.int a1), some (.int a2), some (.int ((a1 >>> (((a2 >>> ((1 : Int32) &&& 31)) * (4 : Int32)) &&& 31)) &&& (15 : Int32))), none] [.int m231] (W1 s) Q := by
            intro m231 em231
            have h233 := h229 m231 em231
            refine wpl_sl (n := 2) (pc' := 54) (ls' := [some (.int a0), some (.int a1), some (.int a2), some (.int ((a1 >>> (((a2 >>> ((1 : Int32) &&& 31)) * (4 : Int32)) &&& 31)) &&& (15 : Int32))), some (.int m231)]) (st' := [.int ((a1 >>> (((a2 >>> ((1 : Int32) &&& 31)) * (4 : Int32)) &&& 31)) &&& (15 : Int32))]) rfl ?_
            have hm235 : ∀ m234, m234 = (if (0 : Int32) < ((a1 >>> (((a2 >>> ((1 : Int32) &&& 31)) * (4 : Int32)) &&& 31)) &&& (15 : Int32)) then (1 : Int32) else (if m231 = (0 : Int32) then (0 : Int32) else (1 : Int32))) → wplI PP QQ (some (N, sg)) 3 lm3 67 [some (.int a0), some (.int a1), some (.int a2), some (.int ((a1 >>> (((a2 >>> ((1 : Int32) &&& 31)) * (4 : Int32)) &&& 31)) &&& (15 : Int32))), some (.int m231)] [.int m234] (W1 s) Q := by
              intro m234 em234
              have h236 := h233 m234 em234
              exact wpl_lle (ls := [none, none, none, none, some (.int m231)]) ⟨rfl, trivial⟩ h236
            refine wpl_if (a := 62) (b := 57) rfl (by decide) rfl rfl (wpl_br (p := (0 : Int32) < ((a1 >>> (((a2 >>> ((1 : Int32) &&& 31)) * (4 : Int32)) &&& 31)) &&& (15 : Int32))) ⟨fun hc237 => ?_, fun hc237 => ?_⟩)
            · refine wpl_sl (n := 2) (pc' := 67) (ls' := [some (.int a0), some (.int a1), some (.int a2), some (.int ((a1 >>> (((a2 >>> ((1 : Int32) &&& 31)) * (4 : Int32)) &&& 31)) &&& (15 : Int32))), some (.int m231)]) (st' := [.int (1 : Int32)]) rfl ?_
              first | exact hm235 _ (by simp only [if_pos hc237]) | exact wpl_lle (by repeat (first | exact trivial | refine ⟨rfl, ?_⟩)) (hm235 _ (by simp only [if_pos hc237]))
            · refine wpl_sl (n := 1) (pc' := 59) (ls' := [some (.int a0), some (.int a1), some (.int a2), some (.int ((a1 >>> (((a2 >>> ((1 : Int32) &&& 31)) * (4 : Int32)) &&& 31)) &&& (15 : Int32))), some (.int m231)]) (st' := [.int m231]) rfl ?_
              refine wpl_if (a := 66) (b := 62) rfl (by decide) rfl rfl (wpl_br (p := m231 = (0 : Int32)) ⟨fun hc238 => ?_, fun hc238 => ?_⟩)
              · refine wpl_sl (n := 1) (pc' := 67) (ls' := [some (.int a0), some (.int a1), some (.int a2), some (.int ((a1 >>> (((a2 >>> ((1 : Int32) &&& 31)) * (4 : Int32)) &&& 31)) &&& (15 : Int32))), some (.int m231)]) (st' := [.int (0 : Int32)]) rfl ?_
                first | exact hm235 _ (by simp only [if_neg hc237, if_pos hc238]) | exact wpl_lle (by repeat (first | exact trivial | refine ⟨rfl, ?_⟩)) (hm235 _ (by simp only [if_neg hc237, if_pos hc238]))
              · refine wpl_sl (n := 2) (pc' := 67) (ls' := [some (.int a0), some (.int a1), some (.int a2), some (.int ((a1 >>> (((a2 >>> ((1 : Int32) &&& 31)) * (4 : Int32)) &&& 31)) &&& (15 : Int32))), some (.int m231)]) (st' := [.int (1 : Int32)]) rfl ?_
                first | exact hm235 _ (by simp only [if_neg hc237, if_neg hc238]) | exact wpl_lle (by repeat (first | exact trivial | refine ⟨rfl, ?_⟩)) (hm235 _ (by simp only [if_neg hc237, if_neg hc238]))
          refine wpl_if (a := 50) (b := 46) rfl (by decide) rfl rfl (wpl_br (p := ((a0 >>> ((a2 + (1 : Int32)) &&& 31)) &&& (1 : Int32)) = (0 : Int32)) ⟨fun hc239 => ?_, fun hc239 => ?_⟩)
          · refine wpl_sl (n := 2) (pc' := 51) (ls' := [some (.int a0), some (.int a1), some (.int a2), some (.int ((a1 >>> (((a2 >>> ((1 : Int32) &&& 31)) * (4 : Int32)) &&& 31)) &&& (15 : Int32))), none]) (st' := [.int (1 : Int32)]) rfl ?_
            first | exact hm232 _ (by simp only [if_pos hc239]) | exact wpl_lle (by repeat (first | exact trivial | refine ⟨rfl, ?_⟩)) (hm232 _ (by simp only [if_pos hc239]))
          · refine wpl_sl (n := 1) (pc' := 51) (ls' := [some (.int a0), some (.int a1), some (.int a2), some (.int ((a1 >>> (((a2 >>> ((1 : Int32) &&& 31)) * (4 : Int32)) &&& 31)) &&& (15 : Int32))), none]) (st' := [.int (0 : Int32)]) rfl ?_
            first | exact hm232 _ (by simp only [if_neg hc239]) | exact wpl_lle (by repeat (first | exact trivial | refine ⟨rfl, ?_⟩)) (hm232 _ (by simp only [if_neg hc239]))
        · have h230 := h227.2 hc228
          refine wpl_sl (n := 7) (pc' := 86) (ls' := [some (.int a0), some (.int a1), some (.int a2), some (.int ((a1 >>> (((a2 >>> ((1 : Int32) &&& 31)) * (4 : Int32)) &&& 31)) &&& (15 : Int32))), none]) (st' := [.int ((a0 >>> ((a2 - (1 : Int32)) &&& 31)) &&& (1 : Int32))]) rfl ?_
          have hm241 : ∀ m240, m240 = (if ((a0 >>> ((a2 - (1 : Int32)) &&& 31)) &&& (1 : Int32)) = (0 : Int32) then (1 : Int32) else (0 : Int32)) → wplI PP QQ (some (N, sg)) 3 lm3 94 [some (.int a0), some (.int a1), some (.int a2), some (.int ((a1 >>> (((a2 >>> ((1 : Int32) &&& 31)) * (4 : Int32)) &&& 31)) &&& (15 : Int32))), none] [.int m240] (W1 s) Q := by
            intro m240 em240
            have h242 := h230 m240 em240
            refine wpl_sl (n := 3) (pc' := 98) (ls' := [some (.int a0), some (.int a1), some (.int a2), some (.int ((a1 >>> (((a2 >>> ((1 : Int32) &&& 31)) * (4 : Int32)) &&& 31)) &&& (15 : Int32))), some (.int m240)]) (st' := [.int (4 : Int32), .int ((a1 >>> (((a2 >>> ((1 : Int32) &&& 31)) * (4 : Int32)) &&& 31)) &&& (15 : Int32))]) rfl ?_
            have hm244 : ∀ m243, m243 = (if ((a1 >>> (((a2 >>> ((1 : Int32) &&& 31)) * (4 : Int32)) &&& 31)) &&& (15 : Int32)) < (4 : Int32) then (2 : Int32) else (if m240 = (0 : Int32) then (0 : Int32) else (2 : Int32))) → wplI PP QQ (some (N, sg)) 3 lm3 111 [some (.int a0), some (.int a1), some (.int a2), some (.int ((a1 >>> (((a2 >>> ((1 : Int32) &&& 31)) * (4 : Int32)) &&& 31)) &&& (15 : Int32))), some (.int m240)] [.int m243] (W1 s) Q := by
              intro m243 em243
              have h245 := h242 m243 em243
              exact wpl_lle (ls := [none, none, none, none, some (.int m240)]) ⟨rfl, trivial⟩ h245
            refine wpl_icmp (a := 106) (b := 101) rfl (by decide) rfl rfl (wpl_br (p := ((a1 >>> (((a2 >>> ((1 : Int32) &&& 31)) * (4 : Int32)) &&& 31)) &&& (15 : Int32)) < (4 : Int32)) ⟨fun hc246 => ?_, fun hc246 => ?_⟩)
            · refine wpl_sl (n := 2) (pc' := 111) (ls' := [some (.int a0), some (.int a1), some (.int a2), some (.int ((a1 >>> (((a2 >>> ((1 : Int32) &&& 31)) * (4 : Int32)) &&& 31)) &&& (15 : Int32))), some (.int m240)]) (st' := [.int (2 : Int32)]) rfl ?_
              first | exact hm244 _ (by simp only [if_pos hc246]) | exact wpl_lle (by repeat (first | exact trivial | refine ⟨rfl, ?_⟩)) (hm244 _ (by simp only [if_pos hc246]))
            · refine wpl_sl (n := 1) (pc' := 103) (ls' := [some (.int a0), some (.int a1), some (.int a2), some (.int ((a1 >>> (((a2 >>> ((1 : Int32) &&& 31)) * (4 : Int32)) &&& 31)) &&& (15 : Int32))), some (.int m240)]) (st' := [.int m240]) rfl ?_
              refine wpl_if (a := 110) (b := 106) rfl (by decide) rfl rfl (wpl_br (p := m240 = (0 : Int32)) ⟨fun hc247 => ?_, fun hc247 => ?_⟩)
              · refine wpl_sl (n := 1) (pc' := 111) (ls' := [some (.int a0), some (.int a1), some (.int a2), some (.int ((a1 >>> (((a2 >>> ((1 : Int32) &&& 31)) * (4 : Int32)) &&& 31)) &&& (15 : Int32))), some (.int m240)]) (st' := [.int (0 : Int32)]) rfl ?_
                first | exact hm244 _ (by simp only [if_neg hc246, if_pos hc247]) | exact wpl_lle (by repeat (first | exact trivial | refine ⟨rfl, ?_⟩)) (hm244 _ (by simp only [if_neg hc246, if_pos hc247]))
              · refine wpl_sl (n := 2) (pc' := 111) (ls' := [some (.int a0), some (.int a1), some (.int a2), some (.int ((a1 >>> (((a2 >>> ((1 : Int32) &&& 31)) * (4 : Int32)) &&& 31)) &&& (15 : Int32))), some (.int m240)]) (st' := [.int (2 : Int32)]) rfl ?_
                first | exact hm244 _ (by simp only [if_neg hc246, if_neg hc247]) | exact wpl_lle (by repeat (first | exact trivial | refine ⟨rfl, ?_⟩)) (hm244 _ (by simp only [if_neg hc246, if_neg hc247]))
          refine wpl_if (a := 93) (b := 89) rfl (by decide) rfl rfl (wpl_br (p := ((a0 >>> ((a2 - (1 : Int32)) &&& 31)) &&& (1 : Int32)) = (0 : Int32)) ⟨fun hc248 => ?_, fun hc248 => ?_⟩)
          · refine wpl_sl (n := 2) (pc' := 94) (ls' := [some (.int a0), some (.int a1), some (.int a2), some (.int ((a1 >>> (((a2 >>> ((1 : Int32) &&& 31)) * (4 : Int32)) &&& 31)) &&& (15 : Int32))), none]) (st' := [.int (1 : Int32)]) rfl ?_
            first | exact hm241 _ (by simp only [if_pos hc248]) | exact wpl_lle (by repeat (first | exact trivial | refine ⟨rfl, ?_⟩)) (hm241 _ (by simp only [if_pos hc248]))
          · refine wpl_sl (n := 1) (pc' := 94) (ls' := [some (.int a0), some (.int a1), some (.int a2), some (.int ((a1 >>> (((a2 >>> ((1 : Int32) &&& 31)) * (4 : Int32)) &&& 31)) &&& (15 : Int32))), none]) (st' := [.int (0 : Int32)]) rfl ?_
            first | exact hm241 _ (by simp only [if_neg hc248]) | exact wpl_lle (by repeat (first | exact trivial | refine ⟨rfl, ?_⟩)) (hm241 _ (by simp only [if_neg hc248]))
theorem l3W1_67 (N : Nat) (sg : Nat → Int32) (x4 : Int32) (y0 : Int32) (s : St) (Q : Int32 → Wd → Prop) (h : ((x4 = (0 : Int32)) → Q (y0 ||| (0 : Int32)) (W1 s)) ∧ (¬ (x4 = (0 : Int32)) → Q (y0 ||| (4 : Int32)) (W1 s))) : wplI PP QQ (some (N, sg)) 3 lm3 67 [none, none, none, none, some (.int x4)] [.int y0] (W1 s) Q := by
  refine wpl_sl (n := 1) (pc' := 69) (ls' := [none, none, none, none, some (.int x4)]) (st' := [.int x4, .int y0]) rfl ?_
  refine wpl_if (a := 76) (b := 72) rfl (by decide) rfl rfl (wpl_br (p := x4 = (0 : Int32)) ⟨fun hc249 => ?_, fun hc249 => ?_⟩)
  · have h250 := h.1 hc249
    refine wpl_sl (n := 2) (pc' := 78) (ls' := [none, none, none, none, some (.int x4)]) (st' := [.int (y0 ||| (0 : Int32))]) rfl ?_
    exact wpl_ret rfl rfl rfl ⟨(y0 ||| (0 : Int32)), rfl, h250⟩
  · have h251 := h.2 hc249
    refine wpl_sl (n := 3) (pc' := 78) (ls' := [none, none, none, none, some (.int x4)]) (st' := [.int (y0 ||| (4 : Int32))]) rfl ?_
    exact wpl_ret rfl rfl rfl ⟨(y0 ||| (4 : Int32)), rfl, h251⟩
theorem l3W1_111 (N : Nat) (sg : Nat → Int32) (x4 : Int32) (y0 : Int32) (s : St) (Q : Int32 → Wd → Prop) (h : ((x4 = (0 : Int32)) → Q (y0 ||| (0 : Int32)) (W1 s)) ∧ (¬ (x4 = (0 : Int32)) → Q (y0 ||| (8 : Int32)) (W1 s))) : wplI PP QQ (some (N, sg)) 3 lm3 111 [none, none, none, none, some (.int x4)] [.int y0] (W1 s) Q := by
  refine wpl_sl (n := 1) (pc' := 113) (ls' := [none, none, none, none, some (.int x4)]) (st' := [.int x4, .int y0]) rfl ?_
  refine wpl_if (a := 121) (b := 116) rfl (by decide) rfl rfl (wpl_br (p := x4 = (0 : Int32)) ⟨fun hc252 => ?_, fun hc252 => ?_⟩)
  · have h253 := h.1 hc252
    refine wpl_sl (n := 2) (pc' := 123) (ls' := [none, none, none, none, some (.int x4)]) (st' := [.int (y0 ||| (0 : Int32))]) rfl ?_
    exact wpl_ret rfl rfl rfl ⟨(y0 ||| (0 : Int32)), rfl, h253⟩
  · have h254 := h.2 hc252
    refine wpl_sl (n := 3) (pc' := 123) (ls' := [none, none, none, none, some (.int x4)]) (st' := [.int (y0 ||| (8 : Int32))]) rfl ?_
    exact wpl_ret rfl rfl rfl ⟨(y0 ||| (8 : Int32)), rfl, h254⟩
theorem c15_in  (s : St) (Q : Int32 → St → Prop) (h : wpcI PP 15 cm15 11 2 [some (.ref 0), some (.int (0 : Int32))] [] s Q) : calI PP 15 11 [.ref 0] s Q := by
  refine cal_of (me := cm15) (ls := [some (.ref 0), none]) rfl (Nat.le_of_ble_eq_true rfl) rfl ?_
  refine wpc_sl (n := 2) (c' := 11) (pc' := 2) (ls' := [some (.ref 0), some (.int (0 : Int32))]) (st' := []) (s' := s) rfl ?_
  exact h
theorem c15_2 (x1 : Int32) (s : St) (Q : Int32 → St → Prop) (h : ((x1 < (gI s 0 17)) → inb 8 x1 ∧ (((gI s 1 (ix x1)) = (0 : Int32)) → inb 8 x1 ∧ (((gI s 2 (ix x1)) = (0 : Int32)) → inb 8 x1 ∧ inb 8 x1 ∧ inb 8 x1 ∧ inb 8 x1 ∧ Q x1 (sI (sI (sI (sI s 1 (ix x1) (1 : Int32)) 2 (ix x1) (1 : Int32)) 4 (ix x1) (0 : Int32)) 5 (ix x1) (0 : Int32))) ∧ (¬ ((gI s 2 (ix x1)) = (0 : Int32)) → wpcI PP 15 cm15 11 58 [some (.ref 0), some (.int x1)] [] s Q)) ∧ (¬ ((gI s 1 (ix x1)) = (0 : Int32)) → wpcI PP 15 cm15 11 58 [some (.ref 0), some (.int x1)] [] s Q)) ∧ (¬ (x1 < (gI s 0 17)) → Q (-8 : Int32) s)) : wpcI PP 15 cm15 11 2 [some (.ref 0), some (.int x1)] [] s Q := by
  refine wpc_sl (n := 3) (c' := 11) (pc' := 7) (ls' := [some (.ref 0), some (.int x1)]) (st' := [.int (gI s 0 17), .int x1]) (s' := s) rfl ?_
  refine wpc_icmp (a := 64) (b := 10) rfl (by decide) rfl rfl (wpc_br (p := x1 < (gI s 0 17)) ⟨fun hc255 => ?_, fun hc255 => ?_⟩)
  · have h256 := h.1 hc255
    refine wpc_sl (n := 3) (c' := 11) (pc' := 15) (ls' := [some (.ref 0), some (.int x1)]) (st' := [.int x1, .ref 1]) (s' := s) rfl ?_
    refine wpc_ldaZ (a := 0) (N := 8) (v := (gI s 1 (ix x1))) rfl rfl (by decide) h256.1 rfl ?_
    have h258 := h256.2
    refine wpc_if (a := 58) (b := 19) rfl (by decide) rfl rfl (wpc_br (p := (gI s 1 (ix x1)) = (0 : Int32)) ⟨fun hc259 => ?_, fun hc259 => ?_⟩)
    · have h260 := h258.1 hc259
      refine wpc_sl (n := 3) (c' := 11) (pc' := 24) (ls' := [some (.ref 0), some (.int x1)]) (st' := [.int x1, .ref 2]) (s' := s) rfl ?_
      refine wpc_ldaZ (a := 1) (N := 8) (v := (gI s 2 (ix x1))) rfl rfl (by decide) h260.1 rfl ?_
      have h262 := h260.2
      refine wpc_if (a := 58) (b := 28) rfl (by decide) rfl rfl (wpc_br (p := (gI s 2 (ix x1)) = (0 : Int32)) ⟨fun hc263 => ?_, fun hc263 => ?_⟩)
      · have h264 := h262.1 hc263
        refine wpc_sl (n := 4) (c' := 11) (pc' := 34) (ls' := [some (.ref 0), some (.int x1)]) (st' := [.int (1 : Int32), .int x1, .ref 1]) (s' := s) rfl ?_
        refine wpc_staZ (a := 0) (N := 8) (s' := (sI s 1 (ix x1) (1 : Int32))) rfl rfl (by decide) h264.1 rfl ?_
        have h266 := h264.2
        refine wpc_sl (n := 4) (c' := 11) (pc' := 41) (ls' := [some (.ref 0), some (.int x1)]) (st' := [.int (1 : Int32), .int x1, .ref 2]) (s' := (sI s 1 (ix x1) (1 : Int32))) rfl ?_
        refine wpc_staZ (a := 1) (N := 8) (s' := (sI (sI s 1 (ix x1) (1 : Int32)) 2 (ix x1) (1 : Int32))) rfl rfl (by decide) h266.1 rfl ?_
        have h267 := h266.2
        refine wpc_sl (n := 4) (c' := 11) (pc' := 48) (ls' := [some (.ref 0), some (.int x1)]) (st' := [.int (0 : Int32), .int x1, .ref 4]) (s' := (sI (sI s 1 (ix x1) (1 : Int32)) 2 (ix x1) (1 : Int32))) rfl ?_
        refine wpc_staI (a := 3) (N := 8) (s' := (sI (sI (sI s 1 (ix x1) (1 : Int32)) 2 (ix x1) (1 : Int32)) 4 (ix x1) (0 : Int32))) rfl rfl (by decide) h267.1 rfl ?_
        have h268 := h267.2
        refine wpc_sl (n := 4) (c' := 11) (pc' := 55) (ls' := [some (.ref 0), some (.int x1)]) (st' := [.int (0 : Int32), .int x1, .ref 5]) (s' := (sI (sI (sI s 1 (ix x1) (1 : Int32)) 2 (ix x1) (1 : Int32)) 4 (ix x1) (0 : Int32))) rfl ?_
        refine wpc_staI (a := 4) (N := 8) (s' := (sI (sI (sI (sI s 1 (ix x1) (1 : Int32)) 2 (ix x1) (1 : Int32)) 4 (ix x1) (0 : Int32)) 5 (ix x1) (0 : Int32))) rfl rfl (by decide) h268.1 rfl ?_
        have h269 := h268.2
        refine wpc_sl (n := 1) (c' := 11) (pc' := 57) (ls' := [some (.ref 0), some (.int x1)]) (st' := [.int x1]) (s' := (sI (sI (sI (sI s 1 (ix x1) (1 : Int32)) 2 (ix x1) (1 : Int32)) 4 (ix x1) (0 : Int32)) 5 (ix x1) (0 : Int32))) rfl ?_
        exact wpc_ret rfl rfl (fun q => absurd q (by decide)) rfl ⟨x1, rfl, h269⟩
      · have h265 := h262.2 hc263
        exact h265
    · have h261 := h258.2 hc259
      exact h261
  · have h257 := h.2 hc255
    refine wpc_sl (n := 1) (c' := 11) (pc' := 66) (ls' := [some (.ref 0), some (.int x1)]) (st' := [.int (-8 : Int32)]) (s' := s) rfl ?_
    exact wpc_ret rfl rfl (fun q => absurd q (by decide)) rfl ⟨(-8 : Int32), rfl, h257⟩
theorem c15_58 (x1 : Int32) (s : St) (Q : Int32 → St → Prop) (h : wpcI PP 15 cm15 11 2 [some (.ref 0), some (.int (x1 + (1 : Int32)))] [] s Q) : wpcI PP 15 cm15 11 58 [some (.ref 0), some (.int x1)] [] s Q := by
  refine wpc_sl (n := 2) (c' := 11) (pc' := 2) (ls' := [some (.ref 0), some (.int (x1 + (1 : Int32)))]) (st' := []) (s' := s) rfl ?_
  exact h
theorem c3_in (a1 : Int32) (s : St) (Q : Int32 → St → Prop) (h : ((a1 < (0 : Int32)) → Q (0 : Int32) s) ∧ (¬ (a1 < (0 : Int32)) → ((a1 < ((2 : Int32) * (gI s 0 17))) → (((a1 &&& (1 : Int32)) = (0 : Int32)) → inb 8 (a1 >>> ((1 : Int32) &&& 31)) ∧ Q ((gI s 1 (ix (a1 >>> ((1 : Int32) &&& 31)))) &&& 1) s) ∧ (¬ ((a1 &&& (1 : Int32)) = (0 : Int32)) → inb 8 (a1 >>> ((1 : Int32) &&& 31)) ∧ Q ((gI s 2 (ix (a1 >>> ((1 : Int32) &&& 31)))) &&& 1) s)) ∧ (¬ (a1 < ((2 : Int32) * (gI s 0 17))) → Q (0 : Int32) s))) : calI PP 3 11 [.ref 0, .int a1] s Q := by
  refine cal_of (me := cm3) (ls := [some (.ref 0), some (.int a1), none]) rfl (Nat.le_of_ble_eq_true rfl) rfl ?_
  refine wpc_sl (n := 1) (c' := 11) (pc' := 1) (ls' := [some (.ref 0), some (.int a1), none]) (st' := [.int a1]) (s' := s) rfl ?_
  refine wpc_if (a := 14) (b := 4) rfl (by decide) rfl rfl (wpc_br (p := a1 < (0 : Int32)) ⟨fun hc304 => ?_, fun hc304 => ?_⟩)
  · have h305 := h.1 hc304
    refine wpc_sl (n := 1) (c' := 11) (pc' := 15) (ls' := [some (.ref 0), some (.int a1), none]) (st' := [.int (0 : Int32)]) (s' := s) rfl ?_
    exact wpc_ret rfl rfl (fun q => absurd q (by decide)) rfl ⟨(0 : Int32), rfl, h305⟩
  · have h306 := h.2 hc304
    refine wpc_sl (n := 5) (c' := 11) (pc' := 11) (ls' := [some (.ref 0), some (.int a1), none]) (st' := [.int ((2 : Int32) * (gI s 0 17)), .int a1]) (s' := s) rfl ?_
    refine wpc_icmp (a := 16) (b := 14) rfl (by decide) rfl rfl (wpc_br (p := a1 < ((2 : Int32) * (gI s 0 17))) ⟨fun hc307 => ?_, fun hc307 => ?_⟩)
    · have h308 := h306.1 hc307
      refine wpc_sl (n := 7) (c' := 11) (pc' := 23) (ls' := [some (.ref 0), some (.int a1), some (.int (a1 >>> ((1 : Int32) &&& 31)))]) (st' := [.int (a1 &&& (1 : Int32))]) (s' := s) rfl ?_
      refine wpc_if (a := 33) (b := 26) rfl (by decide) rfl rfl (wpc_br (p := (a1 &&& (1 : Int32)) = (0 : Int32)) ⟨fun hc310 => ?_, fun hc310 => ?_⟩)
      · have h311 := h308.1 hc310
        refine wpc_sl (n := 3) (c' := 11) (pc' := 31) (ls' := [some (.ref 0), some (.int a1), some (.int (a1 >>> ((1 : Int32) &&& 31)))]) (st' := [.int (a1 >>> ((1 : Int32) &&& 31)), .ref 1]) (s' := s) rfl ?_
        refine wpc_ldaZ (a := 0) (N := 8) (v := (gI s 1 (ix (a1 >>> ((1 : Int32) &&& 31))))) rfl rfl (by decide) h311.1 rfl ?_
        have h313 := h311.2
        exact wpc_ret rfl rfl (fun q => absurd q (by decide)) rfl ⟨((gI s 1 (ix (a1 >>> ((1 : Int32) &&& 31)))) &&& 1), rfl, h313⟩
      · have h312 := h308.2 hc310
        refine wpc_sl (n := 3) (c' := 11) (pc' := 38) (ls' := [some (.ref 0), some (.int a1), some (.int (a1 >>> ((1 : Int32) &&& 31)))]) (st' := [.int (a1 >>> ((1 : Int32) &&& 31)), .ref 2]) (s' := s) rfl ?_
        refine wpc_ldaZ (a := 1) (N := 8) (v := (gI s 2 (ix (a1 >>> ((1 : Int32) &&& 31))))) rfl rfl (by decide) h312.1 rfl ?_
        have h314 := h312.2
        exact wpc_ret rfl rfl (fun q => absurd q (by decide)) rfl ⟨((gI s 2 (ix (a1 >>> ((1 : Int32) &&& 31)))) &&& 1), rfl, h314⟩
    · have h309 := h306.2 hc307
      refine wpc_sl (n := 1) (c' := 11) (pc' := 15) (ls' := [some (.ref 0), some (.int a1), none]) (st' := [.int (0 : Int32)]) (s' := s) rfl ?_
      exact wpc_ret rfl rfl (fun q => absurd q (by decide)) rfl ⟨(0 : Int32), rfl, h309⟩
theorem c4_in (a1 : Int32) (s : St) (Q : Int32 → St → Prop) (h : (((a1 &&& (1 : Int32)) = (0 : Int32)) → inb 8 (a1 >>> ((1 : Int32) &&& 31)) ∧ (((0 : Int32) < (gI s 5 (ix (a1 >>> ((1 : Int32) &&& 31))))) → inb 8 (a1 >>> ((1 : Int32) &&& 31)) ∧ (((gI s 2 (ix (a1 >>> ((1 : Int32) &&& 31)))) = (0 : Int32)) → Q (((0 : Int32) ||| (1 : Int32)) ||| (4 : Int32)) s) ∧ (¬ ((gI s 2 (ix (a1 >>> ((1 : Int32) &&& 31)))) = (0 : Int32)) → Q ((0 : Int32) ||| (1 : Int32)) s)) ∧ (¬ ((0 : Int32) < (gI s 5 (ix (a1 >>> ((1 : Int32) &&& 31))))) → inb 8 (a1 >>> ((1 : Int32) &&& 31)) ∧ ∀ m327, m327 = (if (gI s 2 (ix (a1 >>> ((1 : Int32) &&& 31)))) = (0 : Int32) then ((0 : Int32) ||| (1 : Int32)) else (0 : Int32)) → (inb 8 (a1 >>> ((1 : Int32) &&& 31)) ∧ (((gI s 2 (ix (a1 >>> ((1 : Int32) &&& 31)))) = (0 : Int32)) → Q (m327 ||| (4 : Int32)) s) ∧ (¬ ((gI s 2 (ix (a1 >>> ((1 : Int32) &&& 31)))) = (0 : Int32)) → Q m327 s)))) ∧ (¬ ((a1 &&& (1 : Int32)) = (0 : Int32)) → inb 8 (a1 >>> ((1 : Int32) &&& 31)) ∧ (((gI s 5 (ix (a1 >>> ((1 : Int32) &&& 31)))) < (gI s 0 18)) → inb 8 (a1 >>> ((1 : Int32) &&& 31)) ∧ (((gI s 1 (ix (a1 >>> ((1 : Int32) &&& 31)))) = (0 : Int32)) → Q (((0 : Int32) ||| (2 : Int32)) ||| (8 : Int32)) s) ∧ (¬ ((gI s 1 (ix (a1 >>> ((1 : Int32) &&& 31)))) = (0 : Int32)) → Q ((0 : Int32) ||| (2 : Int32)) s)) ∧ (¬ ((gI s 5 (ix (a1 >>> ((1 : Int32) &&& 31)))) < (gI s 0 18)) → inb 8 (a1 >>> ((1 : Int32) &&& 31)) ∧ ∀ m344, m344 = (if (gI s 1 (ix (a1 >>> ((1 : Int32) &&& 31)))) = (0 : Int32) then ((0 : Int32) ||| (2 : Int32)) else (0 : Int32)) → (inb 8 (a1 >>> ((1 : Int32) &&& 31)) ∧ (((gI s 1 (ix (a1 >>> ((1 : Int32) &&& 31)))) = (0 : Int32)) → Q (m344 ||| (8 : Int32)) s) ∧ (¬ ((gI s 1 (ix (a1 >>> ((1 : Int32) &&& 31)))) = (0 : Int32)) → Q m344 s))))) : calI PP 4 11 [.ref 0, .int a1] s Q := by
  refine cal_of (me := cm4) (ls := [some (.ref 0), some (.int a1), none, none]) rfl (Nat.le_of_ble_eq_true rfl) rfl ?_
  refine wpc_sl (n := 9) (c' := 11) (pc' := 9) (ls' := [some (.ref 0), some (.int a1), some (.int (a1 >>> ((1 : Int32) &&& 31))), some (.int (0 : Int32))]) (st' := [.int (a1 &&& (1 : Int32))]) (s' := s) rfl ?_
  refine wpc_if (a := 50) (b := 12) rfl (by decide) rfl rfl (wpc_br (p := (a1 &&& (1 : Int32)) = (0 : Int32)) ⟨fun hc315 => ?_, fun hc315 => ?_⟩)
  · have h316 := h.1 hc315
    refine wpc_sl (n := 3) (c' := 11) (pc' := 17) (ls' := [some (.ref 0), some (.int a1), some (.int (a1 >>> ((1 : Int32) &&& 31))), some (.int (0 : Int32))]) (st' := [.int (a1 >>> ((1 : Int32) &&& 31)), .ref 5]) (s' := s) rfl ?_
    refine wpc_ldaI (a := 4) (N := 8) (v := (gI s 5 (ix (a1 >>> ((1 : Int32) &&& 31))))) rfl rfl (by decide) h316.1 rfl ?_
    have h318 := h316.2
    refine wpc_if (a := 30) (b := 21) rfl (by decide) rfl rfl (wpc_br (p := (0 : Int32) < (gI s 5 (ix (a1 >>> ((1 : Int32) &&& 31))))) ⟨fun hc319 => ?_, fun hc319 => ?_⟩)
    · have h320 := h318.1 hc319
      refine wpc_sl (n := 7) (c' := 11) (pc' := 39) (ls' := [some (.ref 0), some (.int a1), some (.int (a1 >>> ((1 : Int32) &&& 31))), some (.int ((0 : Int32) ||| (1 : Int32)))]) (st' := [.int (a1 >>> ((1 : Int32) &&& 31)), .ref 2]) (s' := s) rfl ?_
      refine wpc_ldaZ (a := 1) (N := 8) (v := (gI s 2 (ix (a1 >>> ((1 : Int32) &&& 31))))) rfl rfl (by decide) h320.1 rfl ?_
      have h322 := h320.2
      refine wpc_if (a := 90) (b := 43) rfl (by decide) rfl rfl (wpc_br (p := (gI s 2 (ix (a1 >>> ((1 : Int32) &&& 31)))) = (0 : Int32)) ⟨fun hc323 => ?_, fun hc323 => ?_⟩)
      · have h324 := h322.1 hc323
        refine wpc_sl (n := 6) (c' := 11) (pc' := 91) (ls' := [some (.ref 0), some (.int a1), some (.int (a1 >>> ((1 : Int32) &&& 31))), some (.int (((0 : Int32) ||| (1 : Int32)) ||| (4 : Int32)))]) (st' := [.int (((0 : Int32) ||| (1 : Int32)) ||| (4 : Int32))]) (s' := s) rfl ?_
        exact wpc_ret rfl rfl (fun q => absurd q (by decide)) rfl ⟨(((0 : Int32) ||| (1 : Int32)) ||| (4 : Int32)), rfl, h324⟩
      · have h325 := h322.2 hc323
        refine wpc_sl (n := 1) (c' := 11) (pc' := 91) (ls' := [some (.ref 0), some (.int a1), some (.int (a1 >>> ((1 : Int32) &&& 31))), some (.int ((0 : Int32) ||| (1 : Int32)))]) (st' := [.int ((0 : Int32) ||| (1 : Int32))]) (s' := s) rfl ?_
        exact wpc_ret rfl rfl (fun q => absurd q (by decide)) rfl ⟨((0 : Int32) ||| (1 : Int32)), rfl, h325⟩
    · have h321 := h318.2 hc319
      refine wpc_sl (n := 3) (c' := 11) (pc' := 26) (ls' := [some (.ref 0), some (.int a1), some (.int (a1 >>> ((1 : Int32) &&& 31))), some (.int (0 : Int32))]) (st' := [.int (a1 >>> ((1 : Int32) &&& 31)), .ref 2]) (s' := s) rfl ?_
      refine wpc_ldaZ (a := 1) (N := 8) (v := (gI s 2 (ix (a1 >>> ((1 : Int32) &&& 31))))) rfl rfl (by decide) h321.1 rfl ?_
      have h326 := h321.2
      have hm328 : ∀ m327, m327 = (if (gI s 2 (ix (a1 >>> ((1 : Int32) &&& 31)))) = (0 : Int32) then ((0 : Int32) ||| (1 : Int32)) else (0 : Int32)) → wpcI PP 4 cm4 11 34 [some (.ref 0), some (.int a1), some (.int (a1 >>> ((1 : Int32) &&& 31))), some (.int m327)] [] s Q := by
        intro m327 em327
        have h329 := h326 m327 em327
        refine wpc_sl (n := 3) (c' := 11) (pc' := 39) (ls' := [some (.ref 0), some (.int a1), some (.int (a1 >>> ((1 : Int32) &&& 31))), some (.int m327)]) (st' := [.int (a1 >>> ((1 : Int32) &&& 31)), .ref 2]) (s' := s) rfl ?_
        refine wpc_ldaZ (a := 1) (N := 8) (v := (gI s 2 (ix (a1 >>> ((1 : Int32) &&& 31))))) rfl rfl (by decide) h329.1 rfl ?_
        have h330 := h329.2
        refine wpc_if (a := 90) (b := 43) rfl (by decide) rfl rfl (wpc_br (p := (gI s 2 (ix (a1 >>> ((1 : Int32) &&& 31)))) = (0 : Int32)) ⟨fun hc331 => ?_, fun hc331 => ?_⟩)
        · have h332 := h330.1 hc331
          refine wpc_sl (n := 6) (c' := 11) (pc' := 91) (ls' := [some (.ref 0), some (.int a1), some (.int (a1 >>> ((1 : Int32) &&& 31))), some (.int (m327 ||| (4 : Int32)))]) (st' := [.int (m327 ||| (4 : Int32))]) (s' := s) rfl ?_
          exact wpc_ret rfl rfl (fun q => absurd q (by decide)) rfl ⟨(m327 ||| (4 : Int32)), rfl, h332⟩
        · have h333 := h330.2 hc331
          refine wpc_sl (n := 1) (c' := 11) (pc' := 91) (ls' := [some (.ref 0), some (.int a1), some (.int (a1 >>> ((1 : Int32) &&& 31))), some (.int m327)]) (st' := [.int m327]) (s' := s) rfl ?_
          exact wpc_ret rfl rfl (fun q => absurd q (by decide)) rfl ⟨m327, rfl, h333⟩
      refine wpc_if (a := 34) (b := 30) rfl (by decide) rfl rfl (wpc_br (p := (gI s 2 (ix (a1 >>> ((1 : Int32) &&& 31)))) = (0 : Int32)) ⟨fun hc334 => ?_, fun hc334 => ?_⟩)
      · refine wpc_sl (n := 4) (c' := 11) (pc' := 34) (ls' := [some (.ref 0), some (.int a1), some (.int (a1 >>> ((1 : Int32) &&& 31))), some (.int ((0 : Int32) ||| (1 : Int32)))]) (st' := []) (s' := s) rfl ?_
        first | exact hm328 _ (by simp only [if_pos hc334]) | exact wpc_lle (by repeat (first | exact trivial | refine ⟨rfl, ?_⟩)) (hm328 _ (by simp only [if_pos hc334]))
      · first | exact hm328 _ (by simp only [if_neg hc334]) | exact wpc_lle (by repeat (first | exact trivial | refine ⟨rfl, ?_⟩)) (hm328 _ (by simp only [if_neg hc334]))
  · have h317 := h.2 hc315
    refine wpc_sl (n := 3) (c' := 11) (pc' := 55) (ls' := [some (.ref 0), some (.int a1), some (.int (a1 >>> ((1 : Int32) &&& 31))), some (.int (0 : Int32))]) (st' := [.int (a1 >>> ((1 : Int32) &&& 31)), .ref 5]) (s' := s) rfl ?_
    refine wpc_ldaI (a := 4) (N := 8) (v := (gI s 5 (ix (a1 >>> ((1 : Int32) &&& 31))))) rfl rfl (by decide) h317.1 rfl ?_
    have h335 := h317.2
    refine wpc_sl (n := 2) (c' := 11) (pc' := 60) (ls' := [some (.ref 0), some (.int a1), some (.int (a1 >>> ((1 : Int32) &&& 31))), some (.int (0 : Int32))]) (st' := [.int (gI s 0 18), .int (gI s 5 (ix (a1 >>> ((1 : Int32) &&& 31))))]) (s' := s) rfl ?_
    refine wpc_icmp (a := 72) (b := 63) rfl (by decide) rfl rfl (wpc_br (p := (gI s 5 (ix (a1 >>> ((1 : Int32) &&& 31)))) < (gI s 0 18)) ⟨fun hc336 => ?_, fun hc336 => ?_⟩)
    · have h337 := h335.1 hc336
      refine wpc_sl (n := 7) (c' := 11) (pc' := 81) (ls' := [some (.ref 0), some (.int a1), some (.int (a1 >>> ((1 : Int32) &&& 31))), some (.int ((0 : Int32) ||| (2 : Int32)))]) (st' := [.int (a1 >>> ((1 : Int32) &&& 31)), .ref 1]) (s' := s) rfl ?_
      refine wpc_ldaZ (a := 0) (N := 8) (v := (gI s 1 (ix (a1 >>> ((1 : Int32) &&& 31))))) rfl rfl (by decide) h337.1 rfl ?_
      have h339 := h337.2
      refine wpc_if (a := 90) (b := 85) rfl (by decide) rfl rfl (wpc_br (p := (gI s 1 (ix (a1 >>> ((1 : Int32) &&& 31)))) = (0 : Int32)) ⟨fun hc340 => ?_, fun hc340 => ?_⟩)
      · have h341 := h339.1 hc340
        refine wpc_sl (n := 5) (c' := 11) (pc' := 91) (ls' := [some (.ref 0), some (.int a1), some (.int (a1 >>> ((1 : Int32) &&& 31))), some (.int (((0 : Int32) ||| (2 : Int32)) ||| (8 : Int32)))]) (st' := [.int (((0 : Int32) ||| (2 : Int32)) ||| (8 : Int32))]) (s' := s) rfl ?_
        exact wpc_ret rfl rfl (fun q => absurd q (by decide)) rfl ⟨(((0 : Int32) ||| (2 : Int32)) ||| (8 : Int32)), rfl, h341⟩
      · have h342 := h339.2 hc340
        refine wpc_sl (n := 1) (c' := 11) (pc' := 91) (ls' := [some (.ref 0), some (.int a1), some (.int (a1 >>> ((1 : Int32) &&& 31))), some (.int ((0 : Int32) ||| (2 : Int32)))]) (st' := [.int ((0 : Int32) ||| (2 : Int32))]) (s' := s) rfl ?_
        exact wpc_ret rfl rfl (fun q => absurd q (by decide)) rfl ⟨((0 : Int32) ||| (2 : Int32)), rfl, h342⟩
    · have h338 := h335.2 hc336
      refine wpc_sl (n := 3) (c' := 11) (pc' := 68) (ls' := [some (.ref 0), some (.int a1), some (.int (a1 >>> ((1 : Int32) &&& 31))), some (.int (0 : Int32))]) (st' := [.int (a1 >>> ((1 : Int32) &&& 31)), .ref 1]) (s' := s) rfl ?_
      refine wpc_ldaZ (a := 0) (N := 8) (v := (gI s 1 (ix (a1 >>> ((1 : Int32) &&& 31))))) rfl rfl (by decide) h338.1 rfl ?_
      have h343 := h338.2
      have hm345 : ∀ m344, m344 = (if (gI s 1 (ix (a1 >>> ((1 : Int32) &&& 31)))) = (0 : Int32) then ((0 : Int32) ||| (2 : Int32)) else (0 : Int32)) → wpcI PP 4 cm4 11 76 [some (.ref 0), some (.int a1), some (.int (a1 >>> ((1 : Int32) &&& 31))), some (.int m344)] [] s Q := by
        intro m344 em344
        have h346 := h343 m344 em344
        refine wpc_sl (n := 3) (c' := 11) (pc' := 81) (ls' := [some (.ref 0), some (.int a1), some (.int (a1 >>> ((1 : Int32) &&& 31))), some (.int m344)]) (st' := [.int (a1 >>> ((1 : Int32) &&& 31)), .ref 1]) (s' := s) rfl ?_
        refine wpc_ldaZ (a := 0) (N := 8) (v := (gI s 1 (ix (a1 >>> ((1 : Int32) &&& 31))))) rfl rfl (by decide) h346.1 rfl ?_
        have h347 := h346.2
        refine wpc_if (a := 90) (b := 85) rfl (by decide) rfl rfl (wpc_br (p := (gI s 1 (ix (a1 >>> ((1 : Int32) &&& 31)))) = (0 : Int32)) ⟨fun hc348 => ?_, fun hc348 => ?_⟩)
        · have h349 := h347.1 hc348
          refine wpc_sl (n := 5) (c' := 11) (pc' := 91) (ls' := [some (.ref 0), some (.int a1), some (.int (a1 >>> ((1 : Int32) &&& 31))), some (.int (m344 ||| (8 : Int32)))]) (st' := [.int (m344 ||| (8 : Int32))]) (s' := s) rfl ?_
          exact wpc_ret rfl rfl (fun q => absurd q (by decide)) rfl ⟨(m344 ||| (8 : Int32)), rfl, h349⟩
        · have h350 := h347.2 hc348
          refine wpc_sl (n := 1) (c' := 11) (pc' := 91) (ls' := [some (.ref 0), some (.int a1), some (.int (a1 >>> ((1 : Int32) &&& 31))), some (.int m344)]) (st' := [.int m344]) (s' := s) rfl ?_
          exact wpc_ret rfl rfl (fun q => absurd q (by decide)) rfl ⟨m344, rfl, h350⟩
      refine wpc_if (a := 76) (b := 72) rfl (by decide) rfl rfl (wpc_br (p := (gI s 1 (ix (a1 >>> ((1 : Int32) &&& 31)))) = (0 : Int32)) ⟨fun hc351 => ?_, fun hc351 => ?_⟩)
      · refine wpc_sl (n := 4) (c' := 11) (pc' := 76) (ls' := [some (.ref 0), some (.int a1), some (.int (a1 >>> ((1 : Int32) &&& 31))), some (.int ((0 : Int32) ||| (2 : Int32)))]) (st' := []) (s' := s) rfl ?_
        first | exact hm345 _ (by simp only [if_pos hc351]) | exact wpc_lle (by repeat (first | exact trivial | refine ⟨rfl, ?_⟩)) (hm345 _ (by simp only [if_pos hc351]))
      · first | exact hm345 _ (by simp only [if_neg hc351]) | exact wpc_lle (by repeat (first | exact trivial | refine ⟨rfl, ?_⟩)) (hm345 _ (by simp only [if_neg hc351]))
theorem c8_in (a1 : Int32) (a2 : Int32) (s : St) (Q : Int32 → St → Prop) (h : Q ((a1 * (16 : Int32)) + a2) s) : calI PP 8 11 [.ref 0, .int a1, .int a2] s Q := by
  refine cal_of (me := cm8) (ls := [some (.ref 0), some (.int a1), some (.int a2)]) rfl (Nat.le_of_ble_eq_true rfl) rfl ?_
  refine wpc_sl (n := 5) (c' := 11) (pc' := 6) (ls' := [some (.ref 0), some (.int a1), some (.int a2)]) (st' := [.int ((a1 * (16 : Int32)) + a2)]) (s' := s) rfl ?_
  exact wpc_ret rfl rfl (fun q => absurd q (by decide)) rfl ⟨((a1 * (16 : Int32)) + a2), rfl, h⟩
theorem c5_in (a1 : Int32) (s : St) (Q : Int32 → St → Prop) (h : Q (((a1 &&& (3 : Int32)) ||| (4 : Int32)) ||| (8 : Int32)) s) : calI PP 5 11 [.ref 0, .int a1] s Q := by
  refine cal_of (me := cm5) (ls := [some (.ref 0), some (.int a1)]) rfl (Nat.le_of_ble_eq_true rfl) rfl ?_
  refine wpc_sl (n := 7) (c' := 11) (pc' := 8) (ls' := [some (.ref 0), some (.int a1)]) (st' := [.int (((a1 &&& (3 : Int32)) ||| (4 : Int32)) ||| (8 : Int32))]) (s' := s) rfl ?_
  exact wpc_ret rfl rfl (fun q => absurd q (by decide)) rfl ⟨(((a1 &&& (3 : Int32)) ||| (4 : Int32)) ||| (8 : Int32)), rfl, h⟩
theorem c13_in (a1 : Int32) (a2 : Int32) (s : St) (Q : St → Prop) (h : calI PP 3 11 [.ref 0, .int a1] s (fun v353 s352 => ((v353 = (0 : Int32)) → Q s352) ∧ (¬ (v353 = (0 : Int32)) → calI PP 4 11 [.ref 0, .int a1] s352 (fun v359 s358 => wpcV PP 13 cm13 11 18 [some (.ref 0), some (.int a1), some (.int a2), some (.int v359), some (.int (0 : Int32)), none, none] [] s358 Q)))) : calV PP 13 11 [.ref 0, .int a1, .int a2] s Q := by
  refine cal_of (me := cm13) (ls := [some (.ref 0), some (.int a1), some (.int a2), none, none, none, none]) rfl (Nat.le_of_ble_eq_true rfl) rfl ?_
  refine wpc_sl (n := 2) (c' := 11) (pc' := 2) (ls' := [some (.ref 0), some (.int a1), some (.int a2), none, none, none, none]) (st' := [.int a1, .ref 0]) (s' := s) rfl ?_
  refine wpc_callI (m' := 3) (me' := cm3) (as := [.int a1]) (r := []) rfl rfl rfl rfl rfl ⟨by decide, (by first | decide | exact Nat.le_of_ble_eq_true rfl), (by first | decide | exact Nat.le_of_ble_eq_true rfl), rfl⟩ (calI.mono h fun v353 s352 h354 => ?_)
  refine wpc_if (a := 9) (b := 8) rfl (by decide) rfl rfl (wpc_br (p := v353 = (0 : Int32)) ⟨fun hc355 => ?_, fun hc355 => ?_⟩)
  · have h356 := h354.1 hc355
    exact wpc_ret rfl rfl (fun q => absurd q (by decide)) rfl ⟨rfl, h356⟩
  · have h357 := h354.2 hc355
    refine wpc_sl (n := 2) (c' := 11) (pc' := 11) (ls' := [some (.ref 0), some (.int a1), some (.int a2), none, none, none, none]) (st' := [.int a1, .ref 0]) (s' := s352) rfl ?_
    refine wpc_callI (m' := 4) (me' := cm4) (as := [.int a1]) (r := []) rfl rfl rfl rfl rfl ⟨by decide, (by first | decide | exact Nat.le_of_ble_eq_true rfl), (by first | decide | exact Nat.le_of_ble_eq_true rfl), rfl⟩ (calI.mono h357 fun v359 s358 h360 => ?_)
    refine wpc_sl (n := 3) (c' := 11) (pc' := 18) (ls' := [some (.ref 0), some (.int a1), some (.int a2), some (.int v359), some (.int (0 : Int32)), none, none]) (st' := []) (s' := s358) rfl ?_
    exact h360
theorem c13_18 (x1 : Int32) (x2 : Int32) (x3 : Int32) (x4 : Int32) (s : St) (Q : St → Prop) (h : ((x4 < (gI s 0 19)) → calI PP 8 11 [.ref 0, .int x4, .int x1] s (fun v365 s364 => inb 64 v365 ∧ (((gI s364 6 (ix v365)) = (0 : Int32)) → wpcV PP 13 cm13 11 107 [some (.ref 0), some (.int x1), some (.int x2), some (.int x3), some (.int x4), none, none] [] s364 Q) ∧ (¬ ((gI s364 6 (ix v365)) = (0 : Int32)) → inb 64 v365 ∧ (((gI s364 8 (ix v365)) = (0 : Int32)) → wpcV PP 13 cm13 11 107 [some (.ref 0), some (.int x1), some (.int x2), some (.int x3), some (.int x4), none, none] [] s364 Q) ∧ (¬ ((gI s364 8 (ix v365)) = (0 : Int32)) → inb 64 v365 ∧ ((((gI s364 7 (ix v365)) &&& (16 : Int32)) = (0 : Int32)) → wpcV PP 13 cm13 11 107 [some (.ref 0), some (.int x1), some (.int x2), some (.int x3), some (.int x4), none, none] [] s364 Q) ∧ (¬ (((gI s364 7 (ix v365)) &&& (16 : Int32)) = (0 : Int32)) → inb 64 v365 ∧ calI PP 5 11 [.ref 0, .int (gI s364 7 (ix v365))] s364 (fun v381 s380 => inb 64 v365 ∧ inb 64 v365 ∧ wpcV PP 13 cm13 11 107 [some (.ref 0), some (.int x1), some (.int x2), some (.int x3), some (.int x4), none, none] [] (sI s380 9 (ix v365) (((gI s380 9 (ix v365)) &&& x3) ||| ((x3 &&& (x2 ^^^ (-1 : Int32))) &&& v381))) Q)))))) ∧ (¬ (x4 < (gI s 0 19)) → Q s)) : wpcV PP 13 cm13 11 18 [some (.ref 0), some (.int x1), some (.int x2), some (.int x3), some (.int x4), none, none] [] s Q := by
  refine wpc_sl (n := 3) (c' := 11) (pc' := 24) (ls' := [some (.ref 0), some (.int x1), some (.int x2), some (.int x3), some (.int x4), none, none]) (st' := [.int (gI s 0 19), .int x4]) (s' := s) rfl ?_
  refine wpc_icmp (a := 113) (b := 27) rfl (by decide) rfl rfl (wpc_br (p := x4 < (gI s 0 19)) ⟨fun hc361 => ?_, fun hc361 => ?_⟩)
  · have h362 := h.1 hc361
    refine wpc_sl (n := 3) (c' := 11) (pc' := 31) (ls' := [some (.ref 0), some (.int x1), some (.int x2), some (.int x3), some (.int x4), none, none]) (st' := [.int x1, .int x4, .ref 0]) (s' := s) rfl ?_
    refine wpc_callI (m' := 8) (me' := cm8) (as := [.int x4, .int x1]) (r := []) rfl rfl rfl rfl rfl ⟨by decide, (by first | decide | exact Nat.le_of_ble_eq_true rfl), (by first | decide | exact Nat.le_of_ble_eq_true rfl), rfl⟩ (calI.mono h362 fun v365 s364 h366 => ?_)
    refine wpc_sl (n := 4) (c' := 11) (pc' := 42) (ls' := [some (.ref 0), some (.int x1), some (.int x2), some (.int x3), some (.int x4), some (.int v365), none]) (st' := [.int v365, .ref 6]) (s' := s364) rfl ?_
    refine wpc_ldaZ (a := 5) (N := 64) (v := (gI s364 6 (ix v365))) rfl rfl (by decide) h366.1 rfl ?_
    have h367 := h366.2
    refine wpc_if (a := 107) (b := 46) rfl (by decide) rfl rfl (wpc_br (p := (gI s364 6 (ix v365)) = (0 : Int32)) ⟨fun hc368 => ?_, fun hc368 => ?_⟩)
    · have h369 := h367.1 hc368
      exact wpc_lle (ls := [some (.ref 0), some (.int x1), some (.int x2), some (.int x3), some (.int x4), none, none]) ⟨rfl, rfl, rfl, rfl, rfl, trivial⟩ h369
    · have h370 := h367.2 hc368
      refine wpc_sl (n := 3) (c' := 11) (pc' := 52) (ls' := [some (.ref 0), some (.int x1), some (.int x2), some (.int x3), some (.int x4), some (.int v365), none]) (st' := [.int v365, .ref 8]) (s' := s364) rfl ?_
      refine wpc_ldaZ (a := 7) (N := 64) (v := (gI s364 8 (ix v365))) rfl rfl (by decide) h370.1 rfl ?_
      have h371 := h370.2
      refine wpc_if (a := 107) (b := 56) rfl (by decide) rfl rfl (wpc_br (p := (gI s364 8 (ix v365)) = (0 : Int32)) ⟨fun hc372 => ?_, fun hc372 => ?_⟩)
      · have h373 := h371.1 hc372
        exact wpc_lle (ls := [some (.ref 0), some (.int x1), some (.int x2), some (.int x3), some (.int x4), none, none]) ⟨rfl, rfl, rfl, rfl, rfl, trivial⟩ h373
      · have h374 := h371.2 hc372
        refine wpc_sl (n := 3) (c' := 11) (pc' := 62) (ls' := [some (.ref 0), some (.int x1), some (.int x2), some (.int x3), some (.int x4), some (.int v365), none]) (st' := [.int v365, .ref 7]) (s' := s364) rfl ?_
        refine wpc_ldaI (a := 6) (N := 64) (v := (gI s364 7 (ix v365))) rfl rfl (by decide) h374.1 rfl ?_
        have h375 := h374.2
        refine wpc_sl (n := 2) (c' := 11) (pc' := 66) (ls' := [some (.ref 0), some (.int x1), some (.int x2), some (.int x3), some (.int x4), some (.int v365), none]) (st' := [.int ((gI s364 7 (ix v365)) &&& (16 : Int32))]) (s' := s364) rfl ?_
        refine wpc_if (a := 107) (b := 69) rfl (by decide) rfl rfl (wpc_br (p := ((gI s364 7 (ix v365)) &&& (16 : Int32)) = (0 : Int32)) ⟨fun hc376 => ?_, fun hc376 => ?_⟩)
        · have h377 := h375.1 hc376
          exact wpc_lle (ls := [some (.ref 0), some (.int x1), some (.int x2), some (.int x3), some (.int x4), none, none]) ⟨rfl, rfl, rfl, rfl, rfl, trivial⟩ h377
        · have h378 := h375.2 hc376
          refine wpc_sl (n := 4) (c' := 11) (pc' := 76) (ls' := [some (.ref 0), some (.int x1), some (.int x2), some (.int x3), some (.int x4), some (.int v365), none]) (st' := [.int v365, .ref 7, .ref 0]) (s' := s364) rfl ?_
          refine wpc_ldaI (a := 6) (N := 64) (v := (gI s364 7 (ix v365))) rfl rfl (by decide) h378.1 rfl ?_
          have h379 := h378.2
          refine wpc_callI (m' := 5) (me' := cm5) (as := [.int (gI s364 7 (ix v365))]) (r := []) rfl rfl rfl rfl rfl ⟨by decide, (by first | decide | exact Nat.le_of_ble_eq_true rfl), (by first | decide | exact Nat.le_of_ble_eq_true rfl), rfl⟩ (calI.mono h379 fun v381 s380 h382 => ?_)
          refine wpc_sl (n := 7) (c' := 11) (pc' := 94) (ls' := [some (.ref 0), some (.int x1), some (.int x2), some (.int x3), some (.int x4), some (.int v365), some (.int v381)]) (st' := [.int v365, .ref 9, .int v365, .ref 9]) (s' := s380) rfl ?_
          refine wpc_ldaI (a := 8) (N := 64) (v := (gI s380 9 (ix v365))) rfl rfl (by decide) h382.1 rfl ?_
          have h383 := h382.2
          refine wpc_sl (n := 10) (c' := 11) (pc' := 106) (ls' := [some (.ref 0), some (.int x1), some (.int x2), some (.int x3), some (.int x4), some (.int v365), some (.int v381)]) (st' := [.int (((gI s380 9 (ix v365)) &&& x3) ||| ((x3 &&& (x2 ^^^ (-1 : Int32))) &&& v381)), .int v365, .ref 9]) (s' := s380) rfl ?_
          refine wpc_staI (a := 8) (N := 64) (s' := (sI s380 9 (ix v365) (((gI s380 9 (ix v365)) &&& x3) ||| ((x3 &&& (x2 ^^^ (-1 : Int32))) &&& v381)))) rfl rfl (by decide) h383.1 rfl ?_
          have h384 := h383.2
          exact wpc_lle (ls := [some (.ref 0), some (.int x1), some (.int x2), some (.int x3), some (.int x4), none, none]) ⟨rfl, rfl, rfl, rfl, rfl, trivial⟩ h384
  · have h363 := h.2 hc361
    exact wpc_ret rfl rfl (fun q => absurd q (by decide)) rfl ⟨rfl, h363⟩
theorem c13_107 (x1 : Int32) (x2 : Int32) (x3 : Int32) (x4 : Int32) (s : St) (Q : St → Prop) (h : wpcV PP 13 cm13 11 18 [some (.ref 0), some (.int x1), some (.int x2), some (.int x3), some (.int (x4 + (1 : Int32))), none, none] [] s Q) : wpcV PP 13 cm13 11 107 [some (.ref 0), some (.int x1), some (.int x2), some (.int x3), some (.int x4), none, none] [] s Q := by
  refine wpc_sl (n := 2) (c' := 11) (pc' := 18) (ls' := [some (.ref 0), some (.int x1), some (.int x2), some (.int x3), some (.int (x4 + (1 : Int32))), none, none]) (st' := []) (s' := s) rfl ?_
  exact h
theorem c16_in (a1 : Int32) (a2 : Int32) (s : St) (Q : Int32 → St → Prop) (h : calI PP 3 11 [.ref 0, .int a1] s (fun v271 s270 => ((v271 = (0 : Int32)) → Q (-1 : Int32) s270) ∧ (¬ (v271 = (0 : Int32)) → (((a1 &&& (1 : Int32)) = (0 : Int32)) → Q (-1 : Int32) s270) ∧ (¬ ((a1 &&& (1 : Int32)) = (0 : Int32)) → inb 8 (a1 >>> ((1 : Int32) &&& 31)) ∧ (((gI s270 1 (ix (a1 >>> ((1 : Int32) &&& 31)))) = (0 : Int32)) → Q (-4 : Int32) s270) ∧ (¬ ((gI s270 1 (ix (a1 >>> ((1 : Int32) &&& 31)))) = (0 : Int32)) → inb 8 (a1 >>> ((1 : Int32) &&& 31)) ∧ (((gI s270 5 (ix (a1 >>> ((1 : Int32) &&& 31)))) < (gI s270 0 18)) → calI PP 4 11 [.ref 0, .int ((2 : Int32) * (a1 >>> ((1 : Int32) &&& 31)))] s270 (fun v288 s287 => calI PP 4 11 [.ref 0, .int (((2 : Int32) * (a1 >>> ((1 : Int32) &&& 31))) + (1 : Int32))] s287 (fun v291 s290 => inb 8 (a1 >>> ((1 : Int32) &&& 31)) ∧ inb 8 (a1 >>> ((1 : Int32) &&& 31)) ∧ inb 128 (((a1 >>> ((1 : Int32) &&& 31)) * (16 : Int32)) + (((gI s290 4 (ix (a1 >>> ((1 : Int32) &&& 31)))) + (gI s290 5 (ix (a1 >>> ((1 : Int32) &&& 31))))) &&& (15 : Int32))) ∧ inb 8 (a1 >>> ((1 : Int32) &&& 31)) ∧ inb 8 (a1 >>> ((1 : Int32) &&& 31)) ∧ calV PP 13 11 [.ref 0, .int ((2 : Int32) * (a1 >>> ((1 : Int32) &&& 31))), .int v288] (sI (sI s290 3 (ix (((a1 >>> ((1 : Int32) &&& 31)) * (16 : Int32)) + (((gI s290 4 (ix (a1 >>> ((1 : Int32) &&& 31)))) + (gI s290 5 (ix (a1 >>> ((1 : Int32) &&& 31))))) &&& (15 : Int32)))) (a2 &&& (255 : Int32))) 5 (ix (a1 >>> ((1 : Int32) &&& 31))) ((gI s290 5 (ix (a1 >>> ((1 : Int32) &&& 31)))) + (1 : Int32))) (fun s298 => calV PP 13 11 [.ref 0, .int (((2 : Int32) * (a1 >>> ((1 : Int32) &&& 31))) + (1 : Int32)), .int v291] s298 (fun s301 => Q (0 : Int32) s301))))) ∧ (¬ ((gI s270 5 (ix (a1 >>> ((1 : Int32) &&& 31)))) < (gI s270 0 18)) → Q (-2 : Int32) s270)))))) : calI PP 16 11 [.ref 0, .int a1, .int a2] s Q := by
  refine cal_of (me := cm16) (ls := [some (.ref 0), some (.int a1), some (.int a2), none, none, none, none]) rfl (Nat.le_of_ble_eq_true rfl) rfl ?_
  refine wpc_sl (n := 2) (c' := 11) (pc' := 2) (ls' := [some (.ref 0), some (.int a1), some (.int a2), none, none, none, none]) (st' := [.int a1, .ref 0]) (s' := s) rfl ?_
  refine wpc_callI (m' := 3) (me' := cm3) (as := [.int a1]) (r := []) rfl rfl rfl rfl rfl ⟨by decide, (by first | decide | exact Nat.le_of_ble_eq_true rfl), (by first | decide | exact Nat.le_of_ble_eq_true rfl), rfl⟩ (calI.mono h fun v271 s270 h272 => ?_)
  refine wpc_if (a := 14) (b := 8) rfl (by decide) rfl rfl (wpc_br (p := v271 = (0 : Int32)) ⟨fun hc273 => ?_, fun hc273 => ?_⟩)
  · have h274 := h272.1 hc273
    refine wpc_sl (n := 1) (c' := 11) (pc' := 15) (ls' := [some (.ref 0), some (.int a1), some (.int a2), none, none, none, none]) (st' := [.int (-1 : Int32)]) (s' := s270) rfl ?_
    exact wpc_ret rfl rfl (fun q => absurd q (by decide)) rfl ⟨(-1 : Int32), rfl, h274⟩
  · have h275 := h272.2 hc273
    refine wpc_sl (n := 3) (c' := 11) (pc' := 11) (ls' := [some (.ref 0), some (.int a1), some (.int a2), none, none, none, none]) (st' := [.int (a1 &&& (1 : Int32))]) (s' := s270) rfl ?_
    refine wpc_if (a := 16) (b := 14) rfl (by decide) rfl rfl (wpc_br (p := (a1 &&& (1 : Int32)) = (0 : Int32)) ⟨fun hc276 => ?_, fun hc276 => ?_⟩)
    · have h277 := h275.1 hc276
      refine wpc_sl (n := 1) (c' := 11) (pc' := 15) (ls' := [some (.ref 0), some (.int a1), some (.int a2), none, none, none, none]) (st' := [.int (-1 : Int32)]) (s' := s270) rfl ?_
      exact wpc_ret rfl rfl (fun q => absurd q (by decide)) rfl ⟨(-1 : Int32), rfl, h277⟩
    · have h278 := h275.2 hc276
      refine wpc_sl (n := 7) (c' := 11) (pc' := 25) (ls' := [some (.ref 0), some (.int a1), some (.int a2), some (.int (a1 >>> ((1 : Int32) &&& 31))), none, none, none]) (st' := [.int (a1 >>> ((1 : Int32) &&& 31)), .ref 1]) (s' := s270) rfl ?_
      refine wpc_ldaZ (a := 0) (N := 8) (v := (gI s270 1 (ix (a1 >>> ((1 : Int32) &&& 31))))) rfl rfl (by decide) h278.1 rfl ?_
      have h279 := h278.2
      refine wpc_if (a := 32) (b := 29) rfl (by decide) rfl rfl (wpc_br (p := (gI s270 1 (ix (a1 >>> ((1 : Int32) &&& 31)))) = (0 : Int32)) ⟨fun hc280 => ?_, fun hc280 => ?_⟩)
      · have h281 := h279.1 hc280
        refine wpc_sl (n := 1) (c' := 11) (pc' := 31) (ls' := [some (.ref 0), some (.int a1), some (.int a2), some (.int (a1 >>> ((1 : Int32) &&& 31))), none, none, none]) (st' := [.int (-4 : Int32)]) (s' := s270) rfl ?_
        exact wpc_ret rfl rfl (fun q => absurd q (by decide)) rfl ⟨(-4 : Int32), rfl, h281⟩
      · have h282 := h279.2 hc280
        refine wpc_sl (n := 3) (c' := 11) (pc' := 37) (ls' := [some (.ref 0), some (.int a1), some (.int a2), some (.int (a1 >>> ((1 : Int32) &&& 31))), none, none, none]) (st' := [.int (a1 >>> ((1 : Int32) &&& 31)), .ref 5]) (s' := s270) rfl ?_
        refine wpc_ldaI (a := 4) (N := 8) (v := (gI s270 5 (ix (a1 >>> ((1 : Int32) &&& 31))))) rfl rfl (by decide) h282.1 rfl ?_
        have h283 := h282.2
        refine wpc_sl (n := 2) (c' := 11) (pc' := 42) (ls' := [some (.ref 0), some (.int a1), some (.int a2), some (.int (a1 >>> ((1 : Int32) &&& 31))), none, none, none]) (st' := [.int (gI s270 0 18), .int (gI s270 5 (ix (a1 >>> ((1 : Int32) &&& 31))))]) (s' := s270) rfl ?_
        refine wpc_icmp (a := 48) (b := 45) rfl (by decide) rfl rfl (wpc_br (p := (gI s270 5 (ix (a1 >>> ((1 : Int32) &&& 31)))) < (gI s270 0 18)) ⟨fun hc284 => ?_, fun hc284 => ?_⟩)
        · have h285 := h283.1 hc284
          refine wpc_sl (n := 4) (c' := 11) (pc' := 52) (ls' := [some (.ref 0), some (.int a1), some (.int a2), some (.int (a1 >>> ((1 : Int32) &&& 31))), none, none, none]) (st' := [.int ((2 : Int32) * (a1 >>> ((1 : Int32) &&& 31))), .ref 0]) (s' := s270) rfl ?_
          refine wpc_callI (m' := 4) (me' := cm4) (as := [.int ((2 : Int32) * (a1 >>> ((1 : Int32) &&& 31)))]) (r := []) rfl rfl rfl rfl rfl ⟨by decide, (by first | decide | exact Nat.le_of_ble_eq_true rfl), (by first | decide | exact Nat.le_of_ble_eq_true rfl), rfl⟩ (calI.mono h285 fun v288 s287 h289 => ?_)
          refine wpc_sl (n := 7) (c' := 11) (pc' := 63) (ls' := [some (.ref 0), some (.int a1), some (.int a2), some (.int (a1 >>> ((1 : Int32) &&& 31))), some (.int v288), none, none]) (st' := [.int (((2 : Int32) * (a1 >>> ((1 : Int32) &&& 31))) + (1 : Int32)), .ref 0]) (s' := s287) rfl ?_
          refine wpc_callI (m' := 4) (me' := cm4) (as := [.int (((2 : Int32) * (a1 >>> ((1 : Int32) &&& 31))) + (1 : Int32))]) (r := []) rfl rfl rfl rfl rfl ⟨by decide, (by first | decide | exact Nat.le_of_ble_eq_true rfl), (by first | decide | exact Nat.le_of_ble_eq_true rfl), rfl⟩ (calI.mono h289 fun v291 s290 h292 => ?_)
          refine wpc_sl (n := 4) (c' := 11) (pc' := 73) (ls' := [some (.ref 0), some (.int a1), some (.int a2), some (.int (a1 >>> ((1 : Int32) &&& 31))), some (.int v288), some (.int v291), none]) (st' := [.int (a1 >>> ((1 : Int32) &&& 31)), .ref 4]) (s' := s290) rfl ?_
          refine wpc_ldaI (a := 3) (N := 8) (v := (gI s290 4 (ix (a1 >>> ((1 : Int32) &&& 31))))) rfl rfl (by decide) h292.1 rfl ?_
          have h293 := h292.2
          refine wpc_sl (n := 3) (c' := 11) (pc' := 79) (ls' := [some (.ref 0), some (.int a1), some (.int a2), some (.int (a1 >>> ((1 : Int32) &&& 31))), some (.int v288), some (.int v291), none]) (st' := [.int (a1 >>> ((1 : Int32) &&& 31)), .ref 5, .int (gI s290 4 (ix (a1 >>> ((1 : Int32) &&& 31))))]) (s' := s290) rfl ?_
          refine wpc_ldaI (a := 4) (N := 8) (v := (gI s290 5 (ix (a1 >>> ((1 : Int32) &&& 31))))) rfl rfl (by decide) h293.1 rfl ?_
          have h294 := h293.2
          refine wpc_sl (n := 14) (c' := 11) (pc' := 102) (ls' := [some (.ref 0), some (.int a1), some (.int a2), some (.int (a1 >>> ((1 : Int32) &&& 31))), some (.int v288), some (.int v291), some (.int (((gI s290 4 (ix (a1 >>> ((1 : Int32) &&& 31)))) + (gI s290 5 (ix (a1 >>> ((1 : Int32) &&& 31))))) &&& (15 : Int32)))]) (st' := [.int (a2 &&& (255 : Int32)), .int (((a1 >>> ((1 : Int32) &&& 31)) * (16 : Int32)) + (((gI s290 4 (ix (a1 >>> ((1 : Int32) &&& 31)))) + (gI s290 5 (ix (a1 >>> ((1 : Int32) &&& 31))))) &&& (15 : Int32))), .ref 3]) (s' := s290) rfl ?_
          refine wpc_staI (a := 2) (N := 128) (s' := (sI s290 3 (ix (((a1 >>> ((1 : Int32) &&& 31)) * (16 : Int32)) + (((gI s290 4 (ix (a1 >>> ((1 : Int32) &&& 31)))) + (gI s290 5 (ix (a1 >>> ((1 : Int32) &&& 31))))) &&& (15 : Int32)))) (a2 &&& (255 : Int32)))) rfl rfl (by decide) h294.1 rfl ?_
          have h295 := h294.2
          refine wpc_sl (n := 6) (c' := 11) (pc' := 113) (ls' := [some (.ref 0), some (.int a1), some (.int a2), some (.int (a1 >>> ((1 : Int32) &&& 31))), some (.int v288), some (.int v291), some (.int (((gI s290 4 (ix (a1 >>> ((1 : Int32) &&& 31)))) + (gI s290 5 (ix (a1 >>> ((1 : Int32) &&& 31))))) &&& (15 : Int32)))]) (st' := [.int (a1 >>> ((1 : Int32) &&& 31)), .ref 5, .int (a1 >>> ((1 : Int32) &&& 31)), .ref 5]) (s' := (sI s290 3 (ix (((a1 >>> ((1 : Int32) &&& 31)) * (16 : Int32)) + (((gI s290 4 (ix (a1 >>> ((1 : Int32) &&& 31)))) + (gI s290 5 (ix (a1 >>> ((1 : Int32) &&& 31))))) &&& (15 : Int32)))) (a2 &&& (255 : Int32)))) rfl ?_
          refine wpc_ldaI (a := 4) (N := 8) (v := (gI s290 5 (ix (a1 >>> ((1 : Int32) &&& 31))))) rfl rfl (by decide) h295.1 rfl ?_
          have h296 := h295.2
          refine wpc_sl (n := 2) (c' := 11) (pc' := 116) (ls' := [some (.ref 0), some (.int a1), some (.int a2), some (.int (a1 >>> ((1 : Int32) &&& 31))), some (.int v288), some (.int v291), some (.int (((gI s290 4 (ix (a1 >>> ((1 : Int32) &&& 31)))) + (gI s290 5 (ix (a1 >>> ((1 : Int32) &&& 31))))) &&& (15 : Int32)))]) (st' := [.int ((gI s290 5 (ix (a1 >>> ((1 : Int32) &&& 31)))) + (1 : Int32)), .int (a1 >>> ((1 : Int32) &&& 31)), .ref 5]) (s' := (sI s290 3 (ix (((a1 >>> ((1 : Int32) &&& 31)) * (16 : Int32)) + (((gI s290 4 (ix (a1 >>> ((1 : Int32) &&& 31)))) + (gI s290 5 (ix (a1 >>> ((1 : Int32) &&& 31))))) &&& (15 : Int32)))) (a2 &&& (255 : Int32)))) rfl ?_
          refine wpc_staI (a := 4) (N := 8) (s' := (sI (sI s290 3 (ix (((a1 >>> ((1 : Int32) &&& 31)) * (16 : Int32)) + (((gI s290 4 (ix (a1 >>> ((1 : Int32) &&& 31)))) + (gI s290 5 (ix (a1 >>> ((1 : Int32) &&& 31))))) &&& (15 : Int32)))) (a2 &&& (255 : Int32))) 5 (ix (a1 >>> ((1 : Int32) &&& 31))) ((gI s290 5 (ix (a1 >>> ((1 : Int32) &&& 31)))) + (1 : Int32)))) rfl rfl (by decide) h296.1 rfl ?_
          have h297 := h296.2
          refine wpc_sl (n := 5) (c' := 11) (pc' := 123) (ls' := [some (.ref 0), some (.int a1), some (.int a2), some (.int (a1 >>> ((1 : Int32) &&& 31))), some (.int v288), some (.int v291), some (.int (((gI s290 4 (ix (a1 >>> ((1 : Int32) &&& 31)))) + (gI s290 5 (ix (a1 >>> ((1 : Int32) &&& 31))))) &&& (15 : Int32)))]) (st' := [.int v288, .int ((2 : Int32) * (a1 >>> ((1 : Int32) &&& 31))), .ref 0]) (s' := (sI (sI s290 3 (ix (((a1 >>> ((1 : Int32) &&& 31)) * (16 : Int32)) + (((gI s290 4 (ix (a1 >>> ((1 : Int32) &&& 31)))) + (gI s290 5 (ix (a1 >>> ((1 : Int32) &&& 31))))) &&& (15 : Int32)))) (a2 &&& (255 : Int32))) 5 (ix (a1 >>> ((1 : Int32) &&& 31))) ((gI s290 5 (ix (a1 >>> ((1 : Int32) &&& 31)))) + (1 : Int32)))) rfl ?_
          refine wpc_callV (m' := 13) (me' := cm13) (as := [.int ((2 : Int32) * (a1 >>> ((1 : Int32) &&& 31))), .int v288]) (r := []) rfl rfl rfl rfl rfl ⟨by decide, (by first | decide | exact Nat.le_of_ble_eq_true rfl), (by first | decide | exact Nat.le_of_ble_eq_true rfl), rfl⟩ (calV.mono h297 fun s298 h300 => ?_)
          refine wpc_sl (n := 7) (c' := 11) (pc' := 134) (ls' := [some (.ref 0), some (.int a1), some (.int a2), some (.int (a1 >>> ((1 : Int32) &&& 31))), some (.int v288), some (.int v291), some (.int (((gI s290 4 (ix (a1 >>> ((1 : Int32) &&& 31)))) + (gI s290 5 (ix (a1 >>> ((1 : Int32) &&& 31))))) &&& (15 : Int32)))]) (st' := [.int v291, .int (((2 : Int32) * (a1 >>> ((1 : Int32) &&& 31))) + (1 : Int32)), .ref 0]) (s' := s298) rfl ?_
          refine wpc_callV (m' := 13) (me' := cm13) (as := [.int (((2 : Int32) * (a1 >>> ((1 : Int32) &&& 31))) + (1 : Int32)), .int v291]) (r := []) rfl rfl rfl rfl rfl ⟨by decide, (by first | decide | exact Nat.le_of_ble_eq_true rfl), (by first | decide | exact Nat.le_of_ble_eq_true rfl), rfl⟩ (calV.mono h300 fun s301 h303 => ?_)
          refine wpc_sl (n := 1) (c' := 11) (pc' := 138) (ls' := [some (.ref 0), some (.int a1), some (.int a2), some (.int (a1 >>> ((1 : Int32) &&& 31))), some (.int v288), some (.int v291), some (.int (((gI s290 4 (ix (a1 >>> ((1 : Int32) &&& 31)))) + (gI s290 5 (ix (a1 >>> ((1 : Int32) &&& 31))))) &&& (15 : Int32)))]) (st' := [.int (0 : Int32)]) (s' := s301) rfl ?_
          exact wpc_ret rfl rfl (fun q => absurd q (by decide)) rfl ⟨(0 : Int32), rfl, h303⟩
        · have h286 := h283.2 hc284
          refine wpc_sl (n := 1) (c' := 11) (pc' := 47) (ls' := [some (.ref 0), some (.int a1), some (.int a2), some (.int (a1 >>> ((1 : Int32) &&& 31))), none, none, none]) (st' := [.int (-2 : Int32)]) (s' := s270) rfl ?_
          exact wpc_ret rfl rfl (fun q => absurd q (by decide)) rfl ⟨(-2 : Int32), rfl, h286⟩
theorem l5W1_in (N : Nat) (sg : Nat → Int32) (a0 : Int64) (a1 : Int32) (a2 : Int32) (a3 : Int32) (a4 : Int32) (a5 : Int32) (a6 : Int32) (s : St) (Q : Int32 → Wd → Prop) (h : wplI PP QQ (some (N, sg)) 5 lm5 3 [some (.long a0), none, some (.int a1), some (.int a2), some (.int a3), some (.int a4), some (.int a5), some (.int a6), some (.int (0 : Int32)), none, none, none, none, none, none] [] (W1 s) Q) : lalI PP QQ (some (N, sg)) 5 [.long a0, .int a1, .int a2, .int a3, .int a4, .int a5, .int a6] (W1 s) Q := by
  refine lal_of (me := lm5) (ls := [some (.long a0), none, some (.int a1), some (.int a2), some (.int a3), some (.int a4), some (.int a5), some (.int a6), none, none, none, none, none, none, none]) rfl (Nat.le_of_ble_eq_true rfl) rfl ?_
  refine wpl_sl (n := 2) (pc' := 3) (ls' := [some (.long a0), none, some (.int a1), some (.int a2), some (.int a3), some (.int a4), some (.int a5), some (.int a6), some (.int (0 : Int32)), none, none, none, none, none, none]) (st' := []) rfl ?_
  exact h
theorem l5W1_3 (N : Nat) (sg : Nat → Int32) (x0 : Int64) (x2 : Int32) (x3 : Int32) (x4 : Int32) (x5 : Int32) (x6 : Int32) (x7 : Int32) (x8 : Int32) (s : St) (Q : Int32 → Wd → Prop) (h : ((x8 < (4 : Int32)) → lalI PP QQ (some (N, sg)) 3 [.int x3, .int x4, .int (((2 : Int32) * x5) + (x8 &&& (1 : Int32)))] (W1 s) (fun v389 w388 => ∃ s391, w388 = W1 s391 ∧ (∀ m392, m392 = (if v389 < (0 : Int32) then x2 else (if (Int64.toInt32 ((XT.ushrL x0 ((((x8 >>> ((1 : Int32) &&& 31)) * (4 : Int32)) + (((2 : Int32) * x5) + (x8 &&& (1 : Int32)))) * (8 : Int32))) &&& (255 : Int64))) = (0 : Int32) then x2 else (if ((Int64.toInt32 ((XT.ushrL x0 ((((x8 >>> ((1 : Int32) &&& 31)) * (4 : Int32)) + (((2 : Int32) * x5) + (x8 &&& (1 : Int32)))) * (8 : Int32))) &&& (255 : Int64))) &&& (64 : Int32)) = (0 : Int32) then (if ((Int64.toInt32 ((XT.ushrL x0 ((((x8 >>> ((1 : Int32) &&& 31)) * (4 : Int32)) + (((2 : Int32) * x5) + (x8 &&& (1 : Int32)))) * (8 : Int32))) &&& (255 : Int64))) &&& (16 : Int32)) = (0 : Int32) then x2 else (if (x8 &&& (1 : Int32)) = (0 : Int32) then ((x2 &&& (((15 : Int32) <<< (((((x8 >>> ((1 : Int32) &&& 31)) * (4 : Int32)) + (((2 : Int32) * x5) + (x8 &&& (1 : Int32)))) * (4 : Int32)) &&& 31)) ^^^ (-1 : Int32))) ||| (((((XT.ushr x2 ((((x8 >>> ((1 : Int32) &&& 31)) * (4 : Int32)) + (((2 : Int32) * x5) + (x8 &&& (1 : Int32)))) * (4 : Int32))) &&& (15 : Int32)) &&& v389) ||| ((v389 &&& (x6 ^^^ (-1 : Int32))) &&& (((Int64.toInt32 ((XT.ushrL x0 ((((x8 >>> ((1 : Int32) &&& 31)) * (4 : Int32)) + (((2 : Int32) * x5) + (x8 &&& (1 : Int32)))) * (8 : Int32))) &&& (255 : Int64))) &&& (3 : Int32)) ||| (12 : Int32)))) <<< (((((x8 >>> ((1 : Int32) &&& 31)) * (4 : Int32)) + (((2 : Int32) * x5) + (x8 &&& (1 : Int32)))) * (4 : Int32)) &&& 31))) else ((x2 &&& (((15 : Int32) <<< (((((x8 >>> ((1 : Int32) &&& 31)) * (4 : Int32)) + (((2 : Int32) * x5) + (x8 &&& (1 : Int32)))) * (4 : Int32)) &&& 31)) ^^^ (-1 : Int32))) ||| (((((XT.ushr x2 ((((x8 >>> ((1 : Int32) &&& 31)) * (4 : Int32)) + (((2 : Int32) * x5) + (x8 &&& (1 : Int32)))) * (4 : Int32))) &&& (15 : Int32)) &&& v389) ||| ((v389 &&& (x7 ^^^ (-1 : Int32))) &&& (((Int64.toInt32 ((XT.ushrL x0 ((((x8 >>> ((1 : Int32) &&& 31)) * (4 : Int32)) + (((2 : Int32) * x5) + (x8 &&& (1 : Int32)))) * (8 : Int32))) &&& (255 : Int64))) &&& (3 : Int32)) ||| (12 : Int32)))) <<< (((((x8 >>> ((1 : Int32) &&& 31)) * (4 : Int32)) + (((2 : Int32) * x5) + (x8 &&& (1 : Int32)))) * (4 : Int32)) &&& 31))))) else x2))) → (wplI PP QQ (some (N, sg)) 5 lm5 3 [some (.long x0), none, some (.int m392), some (.int x3), some (.int x4), some (.int x5), some (.int x6), some (.int x7), some (.int (x8 + (1 : Int32))), none, none, none, none, none, none] [] (W1 s391) Q)))) ∧ (¬ (x8 < (4 : Int32)) → Q x2 (W1 s))) : wplI PP QQ (some (N, sg)) 5 lm5 3 [some (.long x0), none, some (.int x2), some (.int x3), some (.int x4), some (.int x5), some (.int x6), some (.int x7), some (.int x8), none, none, none, none, none, none] [] (W1 s) Q := by
  refine wpl_sl (n := 2) (pc' := 6) (ls' := [some (.long x0), none, some (.int x2), some (.int x3), some (.int x4), some (.int x5), some (.int x6), some (.int x7), some (.int x8), none, none, none, none, none, none]) (st' := [.int (4 : Int32), .int x8]) rfl ?_
  refine wpl_icmp (a := 153) (b := 9) rfl (by decide) rfl rfl (wpl_br (p := x8 < (4 : Int32)) ⟨fun hc385 => ?_, fun hc385 => ?_⟩)
  · have h386 := h.1 hc385
    refine wpl_sl (n := 5) (pc' := 16) (ls' := [some (.long x0), none, some (.int x2), some (.int x3), some (.int x4), some (.int x5), some (.int x6), some (.int x7), some (.int x8), none, none, none, none, none, none]) (st' := [.int (1 : Int32), .int x8, .int ((2 : Int32) * x5)]) rfl ?_
    refine wpl_sl (n := 5) (pc' := 23) (ls' := [some (.long x0), none, some (.int x2), some (.int x3), some (.int x4), some (.int x5), some (.int x6), some (.int x7), some (.int x8), some (.int (((2 : Int32) * x5) + (x8 &&& (1 : Int32)))), none, none, none, none, none]) (st' := [.int (1 : Int32), .int x8]) rfl ?_
    refine wpl_sl (n := 5) (pc' := 29) (ls' := [some (.long x0), none, some (.int x2), some (.int x3), some (.int x4), some (.int x5), some (.int x6), some (.int x7), some (.int x8), some (.int (((2 : Int32) * x5) + (x8 &&& (1 : Int32)))), none, none, none, none, none]) (st' := [.int (((x8 >>> ((1 : Int32) &&& 31)) * (4 : Int32)) + (((2 : Int32) * x5) + (x8 &&& (1 : Int32))))]) rfl ?_
    refine wpl_sl (n := 4) (pc' := 36) (ls' := [some (.long x0), none, some (.int x2), some (.int x3), some (.int x4), some (.int x5), some (.int x6), some (.int x7), some (.int x8), some (.int (((2 : Int32) * x5) + (x8 &&& (1 : Int32)))), some (.int (((x8 >>> ((1 : Int32) &&& 31)) * (4 : Int32)) + (((2 : Int32) * x5) + (x8 &&& (1 : Int32))))), none, none, none, none]) (st' := [.int (((2 : Int32) * x5) + (x8 &&& (1 : Int32))), .int x4, .int x3]) rfl ?_
    refine wpl_stat (m' := 3) (me' := lm3) (as := [.int x3, .int x4, .int (((2 : Int32) * x5) + (x8 &&& (1 : Int32)))]) (r := []) rfl rfl rfl rfl rfl ⟨(by first | decide | exact Nat.le_of_ble_eq_true rfl), (by first | decide | exact Nat.le_of_ble_eq_true rfl), (by first | decide | exact Nat.le_of_ble_eq_true rfl), (by first | decide | exact Nat.le_of_ble_eq_true rfl), rfl⟩ (lal_I (lalI.mono h386 fun v389 w388 hh => ?_))
    obtain ⟨s391, rfl, h390⟩ := hh
    refine wpl_sl (n := 5) (pc' := 47) (ls' := [some (.long x0), none, some (.int x2), some (.int x3), some (.int x4), some (.int x5), some (.int x6), some (.int x7), some (.int x8), some (.int (((2 : Int32) * x5) + (x8 &&& (1 : Int32)))), some (.int (((x8 >>> ((1 : Int32) &&& 31)) * (4 : Int32)) + (((2 : Int32) * x5) + (x8 &&& (1 : Int32))))), some (.int v389), none, none, none]) (st' := [.int ((((x8 >>> ((1 : Int32) &&& 31)) * (4 : Int32)) + (((2 : Int32) * x5) + (x8 &&& (1 : Int32)))) * (8 : Int32)), .long x0]) rfl ?_
    refine wpl_sl (n := 5) (pc' := 55) (ls' := [some (.long x0), none, some (.int x2), some (.int x3), some (.int x4), some (.int x5), some (.int x6), some (.int x7), some (.int x8), some (.int (((2 : Int32) * x5) + (x8 &&& (1 : Int32)))), some (.int (((x8 >>> ((1 : Int32) &&& 31)) * (4 : Int32)) + (((2 : Int32) * x5) + (x8 &&& (1 : Int32))))), some (.int v389), some (.int (Int64.toInt32 ((XT.ushrL x0 ((((x8 >>> ((1 : Int32) &&& 31)) * (4 : Int32)) + (((2 : Int32) * x5) + (x8 &&& (1 : Int32)))) * (8 : Int32))) &&& (255 : Int64)))), none, none]) (st' := []) rfl ?_
    refine wpl_sl (n := 1) (pc' := 57) (ls' := [some (.long x0), none, some (.int x2), some (.int x3), some (.int x4), some (.int x5), some (.int x6), some (.int x7), some (.int x8), some (.int (((2 : Int32) * x5) + (x8 &&& (1 : Int32)))), some (.int (((x8 >>> ((1 : Int32) &&& 31)) * (4 : Int32)) + (((2 : Int32) * x5) + (x8 &&& (1 : Int32))))), some (.int v389), some (.int (Int64.toInt32 ((XT.ushrL x0 ((((x8 >>> ((1 : Int32) &&& 31)) * (4 : Int32)) + (((2 : Int32) * x5) + (x8 &&& (1 : Int32)))) * (8 : Int32))) &&& (255 : Int64)))), none, none]) (st' := [.int v389]) rfl ?_
    have hm393 : ∀ m392, m392 = (if v389 < (0 : Int32) then x2 else (if (Int64.toInt32 ((XT.ushrL x0 ((((x8 >>> ((1 : Int32) &&& 31)) * (4 : Int32)) + (((2 : Int32) * x5) + (x8 &&& (1 : Int32)))) * (8 : Int32))) &&& (255 : Int64))) = (0 : Int32) then x2 else (if ((Int64.toInt32 ((XT.ushrL x0 ((((x8 >>> ((1 : Int32) &&& 31)) * (4 : Int32)) + (((2 : Int32) * x5) + (x8 &&& (1 : Int32)))) * (8 : Int32))) &&& (255 : Int64))) &&& (64 : Int32)) = (0 : Int32) then (if ((Int64.toInt32 ((XT.ushrL x0 ((((x8 >>> ((1 : Int32) &&& 31)) * (4 : Int32)) + (((2 : Int32) * x5) + (x8 &&& (1 : Int32)))) * (8 : Int32))) &&& (255 : Int64))) &&& (16 : Int32)) = (0 : Int32) then x2 else (if (x8 &&& (1 : Int32)) = (0 : Int32) then ((x2 &&& (((15 : Int32) <<< (((((x8 >>> ((1 : Int32) &&& 31)) * (4 : Int32)) + (((2 : Int32) * x5) + (x8 &&& (1 : Int32)))) * (4 : Int32)) &&& 31)) ^^^ (-1 : Int32))) ||| (((((XT.ushr x2 ((((x8 >>> ((1 : Int32) &&& 31)) * (4 : Int32)) + (((2 : Int32) * x5) + (x8 &&& (1 : Int32)))) * (4 : Int32))) &&& (15 : Int32)) &&& v389) ||| ((v389 &&& (x6 ^^^ (-1 : Int32))) &&& (((Int64.toInt32 ((XT.ushrL x0 ((((x8 >>> ((1 : Int32) &&& 31)) * (4 : Int32)) + (((2 : Int32) * x5) + (x8 &&& (1 : Int32)))) * (8 : Int32))) &&& (255 : Int64))) &&& (3 : Int32)) ||| (12 : Int32)))) <<< (((((x8 >>> ((1 : Int32) &&& 31)) * (4 : Int32)) + (((2 : Int32) * x5) + (x8 &&& (1 : Int32)))) * (4 : Int32)) &&& 31))) else ((x2 &&& (((15 : Int32) <<< (((((x8 >>> ((1 : Int32) &&& 31)) * (4 : Int32)) + (((2 : Int32) * x5) + (x8 &&& (1 : Int32)))) * (4 : Int32)) &&& 31)) ^^^ (-1 : Int32))) ||| (((((XT.ushr x2 ((((x8 >>> ((1 : Int32) &&& 31)) * (4 : Int32)) + (((2 : Int32) * x5) + (x8 &&& (1 : Int32)))) * (4 : Int32))) &&& (15 : Int32)) &&& v389) ||| ((v389 &&& (x7 ^^^ (-1 : Int32))) &&& (((Int64.toInt32 ((XT.ushrL x0 ((((x8 >>> ((1 : Int32) &&& 31)) * (4 : Int32)) + (((2 : Int32) * x5) + (x8 &&& (1 : Int32)))) * (8 : Int32))) &&& (255 : Int64))) &&& (3 : Int32)) ||| (12 : Int32)))) <<< (((((x8 >>> ((1 : Int32) &&& 31)) * (4 : Int32)) + (((2 : Int32) * x5) + (x8 &&& (1 : Int32)))) * (4 : Int32)) &&& 31))))) else x2))) → wplI PP QQ (some (N, sg)) 5 lm5 147 [some (.long x0), none, some (.int m392), some (.int x3), some (.int x4), some (.int x5), some (.int x6), some (.int x7), some (.int x8), some (.int (((2 : Int32) * x5) + (x8 &&& (1 : Int32)))), some (.int (((x8 >>> ((1 : Int32) &&& 31)) * (4 : Int32)) + (((2 : Int32) * x5) + (x8 &&& (1 : Int32))))), some (.int v389), some (.int (Int64.toInt32 ((XT.ushrL x0 ((((x8 >>> ((1 : Int32) &&& 31)) * (4 : Int32)) + (((2 : Int32) * x5) + (x8 &&& (1 : Int32)))) * (8 : Int32))) &&& (255 : Int64)))), none, none] [] (W1 s391) Q := by
      intro m392 em392
      have h394 := h390 m392 em392
      refine wpl_sl (n := 2) (pc' := 3) (ls' := [some (.long x0), none, some (.int m392), some (.int x3), some (.int x4), some (.int x5), some (.int x6), some (.int x7), some (.int (x8 + (1 : Int32))), some (.int (((2 : Int32) * x5) + (x8 &&& (1 : Int32)))), some (.int (((x8 >>> ((1 : Int32) &&& 31)) * (4 : Int32)) + (((2 : Int32) * x5) + (x8 &&& (1 : Int32))))), some (.int v389), some (.int (Int64.toInt32 ((XT.ushrL x0 ((((x8 >>> ((1 : Int32) &&& 31)) * (4 : Int32)) + (((2 : Int32) * x5) + (x8 &&& (1 : Int32)))) * (8 : Int32))) &&& (255 : Int64)))), none, none]) (st' := []) rfl ?_
      exact wpl_lle (ls := [some (.long x0), none, some (.int m392), some (.int x3), some (.int x4), some (.int x5), some (.int x6), some (.int x7), some (.int (x8 + (1 : Int32))), none, none, none, none, none, none]) ⟨rfl, rfl, rfl, rfl, rfl, rfl, rfl, rfl, trivial⟩ h394
    refine wpl_if (a := 147) (b := 60) rfl (by decide) rfl rfl (wpl_br (p := v389 < (0 : Int32)) ⟨fun hc395 => ?_, fun hc395 => ?_⟩)
    · first | exact hm393 _ (by simp only [if_pos hc395]) | exact wpl_lle (by repeat (first | exact trivial | refine ⟨rfl, ?_⟩)) (hm393 _ (by simp only [if_pos hc395]))
    · refine wpl_sl (n := 1) (pc' := 62) (ls' := [some (.long x0), none, some (.int x2), some (.int x3), some (.int x4), some (.int x5), some (.int x6), some (.int x7), some (.int x8), some (.int (((2 : Int32) * x5) + (x8 &&& (1 : Int32)))), some (.int (((x8 >>> ((1 : Int32) &&& 31)) * (4 : Int32)) + (((2 : Int32) * x5) + (x8 &&& (1 : Int32))))), some (.int v389), some (.int (Int64.toInt32 ((XT.ushrL x0 ((((x8 >>> ((1 : Int32) &&& 31)) * (4 : Int32)) + (((2 : Int32) * x5) + (x8 &&& (1 : Int32)))) * (8 : Int32))) &&& (255 : Int64)))), none, none]) (st' := [.int (Int64.toInt32 ((XT.ushrL x0 ((((x8 >>> ((1 : Int32) &&& 31)) * (4 : Int32)) + (((2 : Int32) * x5) + (x8 &&& (1 : Int32)))) * (8 : Int32))) &&& (255 : Int64)))]) rfl ?_
      refine wpl_if (a := 147) (b := 65) rfl (by decide) rfl rfl (wpl_br (p := (Int64.toInt32 ((XT.ushrL x0 ((((x8 >>> ((1 : Int32) &&& 31)) * (4 : Int32)) + (((2 : Int32) * x5) + (x8 &&& (1 : Int32)))) * (8 : Int32))) &&& (255 : Int64))) = (0 : Int32)) ⟨fun hc396 => ?_, fun hc396 => ?_⟩)
      · first | exact hm393 _ (by simp only [if_neg hc395, if_pos hc396]) | exact wpl_lle (by repeat (first | exact trivial | refine ⟨rfl, ?_⟩)) (hm393 _ (by simp only [if_neg hc395, if_pos hc396]))
      · refine wpl_sl (n := 3) (pc' := 70) (ls' := [some (.long x0), none, some (.int x2), some (.int x3), some (.int x4), some (.int x5), some (.int x6), some (.int x7), some (.int x8), some (.int (((2 : Int32) * x5) + (x8 &&& (1 : Int32)))), some (.int (((x8 >>> ((1 : Int32) &&& 31)) * (4 : Int32)) + (((2 : Int32) * x5) + (x8 &&& (1 : Int32))))), some (.int v389), some (.int (Int64.toInt32 ((XT.ushrL x0 ((((x8 >>> ((1 : Int32) &&& 31)) * (4 : Int32)) + (((2 : Int32) * x5) + (x8 &&& (1 : Int32)))) * (8 : Int32))) &&& (255 : Int64)))), none, none]) (st' := [.int ((Int64.toInt32 ((XT.ushrL x0 ((((x8 >>> ((1 : Int32) &&& 31)) * (4 : Int32)) + (((2 : Int32) * x5) + (x8 &&& (1 : Int32)))) * (8 : Int32))) &&& (255 : Int64))) &&& (64 : Int32))]) rfl ?_
        refine wpl_if (a := 147) (b := 73) rfl (by decide) rfl rfl (wpl_br (p := ((Int64.toInt32 ((XT.ushrL x0 ((((x8 >>> ((1 : Int32) &&& 31)) * (4 : Int32)) + (((2 : Int32) * x5) + (x8 &&& (1 : Int32)))) * (8 : Int32))) &&& (255 : Int64))) &&& (64 : Int32)) = (0 : Int32)) ⟨fun hc397 => ?_, fun hc397 => ?_⟩)
        · refine wpl_sl (n := 3) (pc' := 78) (ls' := [some (.long x0), none, some (.int x2), some (.int x3), some (.int x4), some (.int x5), some (.int x6), some (.int x7), some (.int x8), some (.int (((2 : Int32) * x5) + (x8 &&& (1 : Int32)))), some (.int (((x8 >>> ((1 : Int32) &&& 31)) * (4 : Int32)) + (((2 : Int32) * x5) + (x8 &&& (1 : Int32))))), some (.int v389), some (.int (Int64.toInt32 ((XT.ushrL x0 ((((x8 >>> ((1 : Int32) &&& 31)) * (4 : Int32)) + (((2 : Int32) * x5) + (x8 &&& (1 : Int32)))) * (8 : Int32))) &&& (255 : Int64)))), none, none]) (st' := [.int ((Int64.toInt32 ((XT.ushrL x0 ((((x8 >>> ((1 : Int32) &&& 31)) * (4 : Int32)) + (((2 : Int32) * x5) + (x8 &&& (1 : Int32)))) * (8 : Int32))) &&& (255 : Int64))) &&& (16 : Int32))]) rfl ?_
          refine wpl_if (a := 147) (b := 81) rfl (by decide) rfl rfl (wpl_br (p := ((Int64.toInt32 ((XT.ushrL x0 ((((x8 >>> ((1 : Int32) &&& 31)) * (4 : Int32)) + (((2 : Int32) * x5) + (x8 &&& (1 : Int32)))) * (8 : Int32))) &&& (255 : Int64))) &&& (16 : Int32)) = (0 : Int32)) ⟨fun hc398 => ?_, fun hc398 => ?_⟩)
          · first | exact hm393 _ (by simp only [if_neg hc395, if_neg hc396, if_pos hc397, if_pos hc398]) | exact wpl_lle (by repeat (first | exact trivial | refine ⟨rfl, ?_⟩)) (hm393 _ (by simp only [if_neg hc395, if_neg hc396, if_pos hc397, if_pos hc398]))
          · refine wpl_sl (n := 3) (pc' := 85) (ls' := [some (.long x0), none, some (.int x2), some (.int x3), some (.int x4), some (.int x5), some (.int x6), some (.int x7), some (.int x8), some (.int (((2 : Int32) * x5) + (x8 &&& (1 : Int32)))), some (.int (((x8 >>> ((1 : Int32) &&& 31)) * (4 : Int32)) + (((2 : Int32) * x5) + (x8 &&& (1 : Int32))))), some (.int v389), some (.int (Int64.toInt32 ((XT.ushrL x0 ((((x8 >>> ((1 : Int32) &&& 31)) * (4 : Int32)) + (((2 : Int32) * x5) + (x8 &&& (1 : Int32)))) * (8 : Int32))) &&& (255 : Int64)))), none, none]) (st' := [.int (x8 &&& (1 : Int32))]) rfl ?_
            refine wpl_if (a := 93) (b := 88) rfl (by decide) rfl rfl (wpl_br (p := (x8 &&& (1 : Int32)) = (0 : Int32)) ⟨fun hc399 => ?_, fun hc399 => ?_⟩)
            · refine wpl_sl (n := 5) (pc' := 100) (ls' := [some (.long x0), none, some (.int x2), some (.int x3), some (.int x4), some (.int x5), some (.int x6), some (.int x7), some (.int x8), some (.int (((2 : Int32) * x5) + (x8 &&& (1 : Int32)))), some (.int (((x8 >>> ((1 : Int32) &&& 31)) * (4 : Int32)) + (((2 : Int32) * x5) + (x8 &&& (1 : Int32))))), some (.int v389), some (.int (Int64.toInt32 ((XT.ushrL x0 ((((x8 >>> ((1 : Int32) &&& 31)) * (4 : Int32)) + (((2 : Int32) * x5) + (x8 &&& (1 : Int32)))) * (8 : Int32))) &&& (255 : Int64)))), some (.int x6), none]) (st' := [.int (((x8 >>> ((1 : Int32) &&& 31)) * (4 : Int32)) + (((2 : Int32) * x5) + (x8 &&& (1 : Int32)))), .int x2]) rfl ?_
              refine wpl_sl (n := 5) (pc' := 106) (ls' := [some (.long x0), none, some (.int x2), some (.int x3), some (.int x4), some (.int x5), some (.int x6), some (.int x7), some (.int x8), some (.int (((2 : Int32) * x5) + (x8 &&& (1 : Int32)))), some (.int (((x8 >>> ((1 : Int32) &&& 31)) * (4 : Int32)) + (((2 : Int32) * x5) + (x8 &&& (1 : Int32))))), some (.int v389), some (.int (Int64.toInt32 ((XT.ushrL x0 ((((x8 >>> ((1 : Int32) &&& 31)) * (4 : Int32)) + (((2 : Int32) * x5) + (x8 &&& (1 : Int32)))) * (8 : Int32))) &&& (255 : Int64)))), some (.int x6), none]) (st' := [.int ((XT.ushr x2 ((((x8 >>> ((1 : Int32) &&& 31)) * (4 : Int32)) + (((2 : Int32) * x5) + (x8 &&& (1 : Int32)))) * (4 : Int32))) &&& (15 : Int32))]) rfl ?_
              refine wpl_sl (n := 5) (pc' := 114) (ls' := [some (.long x0), none, some (.int x2), some (.int x3), some (.int x4), some (.int x5), some (.int x6), some (.int x7), some (.int x8), some (.int (((2 : Int32) * x5) + (x8 &&& (1 : Int32)))), some (.int (((x8 >>> ((1 : Int32) &&& 31)) * (4 : Int32)) + (((2 : Int32) * x5) + (x8 &&& (1 : Int32))))), some (.int v389), some (.int (Int64.toInt32 ((XT.ushrL x0 ((((x8 >>> ((1 : Int32) &&& 31)) * (4 : Int32)) + (((2 : Int32) * x5) + (x8 &&& (1 : Int32)))) * (8 : Int32))) &&& (255 : Int64)))), some (.int x6), none]) (st' := [.int (-1 : Int32), .int x6, .int v389, .int (((XT.ushr x2 ((((x8 >>> ((1 : Int32) &&& 31)) * (4 : Int32)) + (((2 : Int32) * x5) + (x8 &&& (1 : Int32)))) * (4 : Int32))) &&& (15 : Int32)) &&& v389)]) rfl ?_
              refine wpl_sl (n := 5) (pc' := 120) (ls' := [some (.long x0), none, some (.int x2), some (.int x3), some (.int x4), some (.int x5), some (.int x6), some (.int x7), some (.int x8), some (.int (((2 : Int32) * x5) + (x8 &&& (1 : Int32)))), some (.int (((x8 >>> ((1 : Int32) &&& 31)) * (4 : Int32)) + (((2 : Int32) * x5) + (x8 &&& (1 : Int32))))), some (.int v389), some (.int (Int64.toInt32 ((XT.ushrL x0 ((((x8 >>> ((1 : Int32) &&& 31)) * (4 : Int32)) + (((2 : Int32) * x5) + (x8 &&& (1 : Int32)))) * (8 : Int32))) &&& (255 : Int64)))), some (.int x6), none]) (st' := [.int ((Int64.toInt32 ((XT.ushrL x0 ((((x8 >>> ((1 : Int32) &&& 31)) * (4 : Int32)) + (((2 : Int32) * x5) + (x8 &&& (1 : Int32)))) * (8 : Int32))) &&& (255 : Int64))) &&& (3 : Int32)), .int (v389 &&& (x6 ^^^ (-1 : Int32))), .int (((XT.ushr x2 ((((x8 >>> ((1 : Int32) &&& 31)) * (4 : Int32)) + (((2 : Int32) * x5) + (x8 &&& (1 : Int32)))) * (4 : Int32))) &&& (15 : Int32)) &&& v389)]) rfl ?_
              refine wpl_sl (n := 5) (pc' := 127) (ls' := [some (.long x0), none, some (.int x2), some (.int x3), some (.int x4), some (.int x5), some (.int x6), some (.int x7), some (.int x8), some (.int (((2 : Int32) * x5) + (x8 &&& (1 : Int32)))), some (.int (((x8 >>> ((1 : Int32) &&& 31)) * (4 : Int32)) + (((2 : Int32) * x5) + (x8 &&& (1 : Int32))))), some (.int v389), some (.int (Int64.toInt32 ((XT.ushrL x0 ((((x8 >>> ((1 : Int32) &&& 31)) * (4 : Int32)) + (((2 : Int32) * x5) + (x8 &&& (1 : Int32)))) * (8 : Int32))) &&& (255 : Int64)))), some (.int x6), some (.int ((((XT.ushr x2 ((((x8 >>> ((1 : Int32) &&& 31)) * (4 : Int32)) + (((2 : Int32) * x5) + (x8 &&& (1 : Int32)))) * (4 : Int32))) &&& (15 : Int32)) &&& v389) ||| ((v389 &&& (x6 ^^^ (-1 : Int32))) &&& (((Int64.toInt32 ((XT.ushrL x0 ((((x8 >>> ((1 : Int32) &&& 31)) * (4 : Int32)) + (((2 : Int32) * x5) + (x8 &&& (1 : Int32)))) * (8 : Int32))) &&& (255 : Int64))) &&& (3 : Int32)) ||| (12 : Int32)))))]) (st' := []) rfl ?_
              refine wpl_sl (n := 5) (pc' := 134) (ls' := [some (.long x0), none, some (.int x2), some (.int x3), some (.int x4), some (.int x5), some (.int x6), some (.int x7), some (.int x8), some (.int (((2 : Int32) * x5) + (x8 &&& (1 : Int32)))), some (.int (((x8 >>> ((1 : Int32) &&& 31)) * (4 : Int32)) + (((2 : Int32) * x5) + (x8 &&& (1 : Int32))))), some (.int v389), some (.int (Int64.toInt32 ((XT.ushrL x0 ((((x8 >>> ((1 : Int32) &&& 31)) * (4 : Int32)) + (((2 : Int32) * x5) + (x8 &&& (1 : Int32)))) * (8 : Int32))) &&& (255 : Int64)))), some (.int x6), some (.int ((((XT.ushr x2 ((((x8 >>> ((1 : Int32) &&& 31)) * (4 : Int32)) + (((2 : Int32) * x5) + (x8 &&& (1 : Int32)))) * (4 : Int32))) &&& (15 : Int32)) &&& v389) ||| ((v389 &&& (x6 ^^^ (-1 : Int32))) &&& (((Int64.toInt32 ((XT.ushrL x0 ((((x8 >>> ((1 : Int32) &&& 31)) * (4 : Int32)) + (((2 : Int32) * x5) + (x8 &&& (1 : Int32)))) * (8 : Int32))) &&& (255 : Int64))) &&& (3 : Int32)) ||| (12 : Int32)))))]) (st' := [.int ((((x8 >>> ((1 : Int32) &&& 31)) * (4 : Int32)) + (((2 : Int32) * x5) + (x8 &&& (1 : Int32)))) * (4 : Int32)), .int (15 : Int32), .int x2]) rfl ?_
              refine wpl_sl (n := 5) (pc' := 140) (ls' := [some (.long x0), none, some (.int x2), some (.int x3), some (.int x4), some (.int x5), some (.int x6), some (.int x7), some (.int x8), some (.int (((2 : Int32) * x5) + (x8 &&& (1 : Int32)))), some (.int (((x8 >>> ((1 : Int32) &&& 31)) * (4 : Int32)) + (((2 : Int32) * x5) + (x8 &&& (1 : Int32))))), some (.int v389), some (.int (Int64.toInt32 ((XT.ushrL x0 ((((x8 >>> ((1 : Int32) &&& 31)) * (4 : Int32)) + (((2 : Int32) * x5) + (x8 &&& (1 : Int32)))) * (8 : Int32))) &&& (255 : Int64)))), some (.int x6), some (.int ((((XT.ushr x2 ((((x8 >>> ((1 : Int32) &&& 31)) * (4 : Int32)) + (((2 : Int32) * x5) + (x8 &&& (1 : Int32)))) * (4 : Int32))) &&& (15 : Int32)) &&& v389) ||| ((v389 &&& (x6 ^^^ (-1 : Int32))) &&& (((Int64.toInt32 ((XT.ushrL x0 ((((x8 >>> ((1 : Int32) &&& 31)) * (4 : Int32)) + (((2 : Int32) * x5) + (x8 &&& (1 : Int32)))) * (8 : Int32))) &&& (255 : Int64))) &&& (3 : Int32)) ||| (12 : Int32)))))]) (st' := [.int ((((XT.ushr x2 ((((x8 >>> ((1 : Int32) &&& 31)) * (4 : Int32)) + (((2 : Int32) * x5) + (x8 &&& (1 : Int32)))) * (4 : Int32))) &&& (15 : Int32)) &&& v389) ||| ((v389 &&& (x6 ^^^ (-1 : Int32))) &&& (((Int64.toInt32 ((XT.ushrL x0 ((((x8 >>> ((1 : Int32) &&& 31)) * (4 : Int32)) + (((2 : Int32) * x5) + (x8 &&& (1 : Int32)))) * (8 : Int32))) &&& (255 : Int64))) &&& (3 : Int32)) ||| (12 : Int32)))), .int (x2 &&& (((15 : Int32) <<< (((((x8 >>> ((1 : Int32) &&& 31)) * (4 : Int32)) + (((2 : Int32) * x5) + (x8 &&& (1 : Int32)))) * (4 : Int32)) &&& 31)) ^^^ (-1 : Int32)))]) rfl ?_
              refine wpl_sl (n := 5) (pc' := 146) (ls' := [some (.long x0), none, some (.int x2), some (.int x3), some (.int x4), some (.int x5), some (.int x6), some (.int x7), some (.int x8), some (.int (((2 : Int32) * x5) + (x8 &&& (1 : Int32)))), some (.int (((x8 >>> ((1 : Int32) &&& 31)) * (4 : Int32)) + (((2 : Int32) * x5) + (x8 &&& (1 : Int32))))), some (.int v389), some (.int (Int64.toInt32 ((XT.ushrL x0 ((((x8 >>> ((1 : Int32) &&& 31)) * (4 : Int32)) + (((2 : Int32) * x5) + (x8 &&& (1 : Int32)))) * (8 : Int32))) &&& (255 : Int64)))), some (.int x6), some (.int ((((XT.ushr x2 ((((x8 >>> ((1 : Int32) &&& 31)) * (4 : Int32)) + (((2 : Int32) * x5) + (x8 &&& (1 : Int32)))) * (4 : Int32))) &&& (15 : Int32)) &&& v389) ||| ((v389 &&& (x6 ^^^ (-1 : Int32))) &&& (((Int64.toInt32 ((XT.ushrL x0 ((((x8 >>> ((1 : Int32) &&& 31)) * (4 : Int32)) + (((2 : Int32) * x5) + (x8 &&& (1 : Int32)))) * (8 : Int32))) &&& (255 : Int64))) &&& (3 : Int32)) ||| (12 : Int32)))))]) (st' := [.int ((x2 &&& (((15 : Int32) <<< (((((x8 >>> ((1 : Int32) &&& 31)) * (4 : Int32)) + (((2 : Int32) * x5) + (x8 &&& (1 : Int32)))) * (4 : Int32)) &&& 31)) ^^^ (-1 : Int32))) ||| (((((XT.ushr x2 ((((x8 >>> ((1 : Int32) &&& 31)) * (4 : Int32)) + (((2 : Int32) * x5) + (x8 &&& (1 : Int32)))) * (4 : Int32))) &&& (15 : Int32)) &&& v389) ||| ((v389 &&& (x6 ^^^ (-1 : Int32))) &&& (((Int64.toInt32 ((XT.ushrL x0 ((((x8 >>> ((1 : Int32) &&& 31)) * (4 : Int32)) + (((2 : Int32) * x5) + (x8 &&& (1 : Int32)))) * (8 : Int32))) &&& (255 : Int64))) &&& (3 : Int32)) ||| (12 : Int32)))) <<< (((((x8 >>> ((1 : Int32) &&& 31)) * (4 : Int32)) + (((2 : Int32) * x5) + (x8 &&& (1 : Int32)))) * (4 : Int32)) &&& 31)))]) rfl ?_
              refine wpl_sl (n := 1) (pc' := 147) (ls' := [some (.long x0), none, some (.int ((x2 &&& (((15 : Int32) <<< (((((x8 >>> ((1 : Int32) &&& 31)) * (4 : Int32)) + (((2 : Int32) * x5) + (x8 &&& (1 : Int32)))) * (4 : Int32)) &&& 31)) ^^^ (-1 : Int32))) ||| (((((XT.ushr x2 ((((x8 >>> ((1 : Int32) &&& 31)) * (4 : Int32)) + (((2 : Int32) * x5) + (x8 &&& (1 : Int32)))) * (4 : Int32))) &&& (15 : Int32)) &&& v389) ||| ((v389 &&& (x6 ^^^ (-1 : Int32))) &&& (((Int64.toInt32 ((XT.ushrL x0 ((((x8 >>> ((1 : Int32) &&& 31)) * (4 : Int32)) + (((2 : Int32) * x5) + (x8 &&& (1 : Int32)))) * (8 : Int32))) &&& (255 : Int64))) &&& (3 : Int32)) ||| (12 : Int32)))) <<< (((((x8 >>> ((1 : Int32) &&& 31)) * (4 : Int32)) + (((2 : Int32) * x5) + (x8 &&& (1 : Int32)))) * (4 : Int32)) &&& 31)))), some (.int x3), some (.int x4), some (.int x5), some (.int x6), some (.int x7), some (.int x8), some (.int (((2 : Int32) * x5) + (x8 &&& (1 : Int32)))), some (.int (((x8 >>> ((1 : Int32) &&& 31)) * (4 : Int32)) + (((2 : Int32) * x5) + (x8 &&& (1 : Int32))))), some (.int v389), some (.int (Int64.toInt32 ((XT.ushrL x0 ((((x8 >>> ((1 : Int32) &&& 31)) * (4 : Int32)) + (((2 : Int32) * x5) + (x8 &&& (1 : Int32)))) * (8 : Int32))) &&& (255 : Int64)))), some (.int x6), some (.int ((((XT.ushr x2 ((((x8 >>> ((1 : Int32) &&& 31)) * (4 : Int32)) + (((2 : Int32) * x5) + (x8 &&& (1 : Int32)))) * (4 : Int32))) &&& (15 : Int32)) &&& v389) ||| ((v389 &&& (x6 ^^^ (-1 : Int32))) &&& (((Int64.toInt32 ((XT.ushrL x0 ((((x8 >>> ((1 : Int32) &&& 31)) * (4 : Int32)) + (((2 : Int32) * x5) + (x8 &&& (1 : Int32)))) * (8 : Int32))) &&& (255 : Int64))) &&& (3 : Int32)) ||| (12 : Int32)))))]) (st' := []) rfl ?_
              first | exact hm393 _ (by simp only [if_neg hc395, if_neg hc396, if_pos hc397, if_neg hc398, if_pos hc399]) | exact wpl_lle (by repeat (first | exact trivial | refine ⟨rfl, ?_⟩)) (hm393 _ (by simp only [if_neg hc395, if_neg hc396, if_pos hc397, if_neg hc398, if_pos hc399]))
            · refine wpl_sl (n := 5) (pc' := 101) (ls' := [some (.long x0), none, some (.int x2), some (.int x3), some (.int x4), some (.int x5), some (.int x6), some (.int x7), some (.int x8), some (.int (((2 : Int32) * x5) + (x8 &&& (1 : Int32)))), some (.int (((x8 >>> ((1 : Int32) &&& 31)) * (4 : Int32)) + (((2 : Int32) * x5) + (x8 &&& (1 : Int32))))), some (.int v389), some (.int (Int64.toInt32 ((XT.ushrL x0 ((((x8 >>> ((1 : Int32) &&& 31)) * (4 : Int32)) + (((2 : Int32) * x5) + (x8 &&& (1 : Int32)))) * (8 : Int32))) &&& (255 : Int64)))), some (.int x7), none]) (st' := [.int (4 : Int32), .int (((x8 >>> ((1 : Int32) &&& 31)) * (4 : Int32)) + (((2 : Int32) * x5) + (x8 &&& (1 : Int32)))), .int x2]) rfl ?_
              refine wpl_sl (n := 5) (pc' := 108) (ls' := [some (.long x0), none, some (.int x2), some (.int x3), some (.int x4), some (.int x5), some (.int x6), some (.int x7), some (.int x8), some (.int (((2 : Int32) * x5) + (x8 &&& (1 : Int32)))), some (.int (((x8 >>> ((1 : Int32) &&& 31)) * (4 : Int32)) + (((2 : Int32) * x5) + (x8 &&& (1 : Int32))))), some (.int v389), some (.int (Int64.toInt32 ((XT.ushrL x0 ((((x8 >>> ((1 : Int32) &&& 31)) * (4 : Int32)) + (((2 : Int32) * x5) + (x8 &&& (1 : Int32)))) * (8 : Int32))) &&& (255 : Int64)))), some (.int x7), none]) (st' := [.int v389, .int ((XT.ushr x2 ((((x8 >>> ((1 : Int32) &&& 31)) * (4 : Int32)) + (((2 : Int32) * x5) + (x8 &&& (1 : Int32)))) * (4 : Int32))) &&& (15 : Int32))]) rfl ?_
              refine wpl_sl (n := 5) (pc' := 115) (ls' := [some (.long x0), none, some (.int x2), some (.int x3), some (.int x4), some (.int x5), some (.int x6), some (.int x7), some (.int x8), some (.int (((2 : Int32) * x5) + (x8 &&& (1 : Int32)))), some (.int (((x8 >>> ((1 : Int32) &&& 31)) * (4 : Int32)) + (((2 : Int32) * x5) + (x8 &&& (1 : Int32))))), some (.int v389), some (.int (Int64.toInt32 ((XT.ushrL x0 ((((x8 >>> ((1 : Int32) &&& 31)) * (4 : Int32)) + (((2 : Int32) * x5) + (x8 &&& (1 : Int32)))) * (8 : Int32))) &&& (255 : Int64)))), some (.int x7), none]) (st' := [.int (x7 ^^^ (-1 : Int32)), .int v389, .int (((XT.ushr x2 ((((x8 >>> ((1 : Int32) &&& 31)) * (4 : Int32)) + (((2 : Int32) * x5) + (x8 &&& (1 : Int32)))) * (4 : Int32))) &&& (15 : Int32)) &&& v389)]) rfl ?_
              refine wpl_sl (n := 5) (pc' := 122) (ls' := [some (.long x0), none, some (.int x2), some (.int x3), some (.int x4), some (.int x5), some (.int x6), some (.int x7), some (.int x8), some (.int (((2 : Int32) * x5) + (x8 &&& (1 : Int32)))), some (.int (((x8 >>> ((1 : Int32) &&& 31)) * (4 : Int32)) + (((2 : Int32) * x5) + (x8 &&& (1 : Int32))))), some (.int v389), some (.int (Int64.toInt32 ((XT.ushrL x0 ((((x8 >>> ((1 : Int32) &&& 31)) * (4 : Int32)) + (((2 : Int32) * x5) + (x8 &&& (1 : Int32)))) * (8 : Int32))) &&& (255 : Int64)))), some (.int x7), none]) (st' := [.int (12 : Int32), .int ((Int64.toInt32 ((XT.ushrL x0 ((((x8 >>> ((1 : Int32) &&& 31)) * (4 : Int32)) + (((2 : Int32) * x5) + (x8 &&& (1 : Int32)))) * (8 : Int32))) &&& (255 : Int64))) &&& (3 : Int32)), .int (v389 &&& (x7 ^^^ (-1 : Int32))), .int (((XT.ushr x2 ((((x8 >>> ((1 : Int32) &&& 31)) * (4 : Int32)) + (((2 : Int32) * x5) + (x8 &&& (1 : Int32)))) * (4 : Int32))) &&& (15 : Int32)) &&& v389)]) rfl ?_
              refine wpl_sl (n := 5) (pc' := 128) (ls' := [some (.long x0), none, some (.int x2), some (.int x3), some (.int x4), some (.int x5), some (.int x6), some (.int x7), some (.int x8), some (.int (((2 : Int32) * x5) + (x8 &&& (1 : Int32)))), some (.int (((x8 >>> ((1 : Int32) &&& 31)) * (4 : Int32)) + (((2 : Int32) * x5) + (x8 &&& (1 : Int32))))), some (.int v389), some (.int (Int64.toInt32 ((XT.ushrL x0 ((((x8 >>> ((1 : Int32) &&& 31)) * (4 : Int32)) + (((2 : Int32) * x5) + (x8 &&& (1 : Int32)))) * (8 : Int32))) &&& (255 : Int64)))), some (.int x7), some (.int ((((XT.ushr x2 ((((x8 >>> ((1 : Int32) &&& 31)) * (4 : Int32)) + (((2 : Int32) * x5) + (x8 &&& (1 : Int32)))) * (4 : Int32))) &&& (15 : Int32)) &&& v389) ||| ((v389 &&& (x7 ^^^ (-1 : Int32))) &&& (((Int64.toInt32 ((XT.ushrL x0 ((((x8 >>> ((1 : Int32) &&& 31)) * (4 : Int32)) + (((2 : Int32) * x5) + (x8 &&& (1 : Int32)))) * (8 : Int32))) &&& (255 : Int64))) &&& (3 : Int32)) ||| (12 : Int32)))))]) (st' := [.int x2]) rfl ?_
              refine wpl_sl (n := 5) (pc' := 135) (ls' := [some (.long x0), none, some (.int x2), some (.int x3), some (.int x4), some (.int x5), some (.int x6), some (.int x7), some (.int x8), some (.int (((2 : Int32) * x5) + (x8 &&& (1 : Int32)))), some (.int (((x8 >>> ((1 : Int32) &&& 31)) * (4 : Int32)) + (((2 : Int32) * x5) + (x8 &&& (1 : Int32))))), some (.int v389), some (.int (Int64.toInt32 ((XT.ushrL x0 ((((x8 >>> ((1 : Int32) &&& 31)) * (4 : Int32)) + (((2 : Int32) * x5) + (x8 &&& (1 : Int32)))) * (8 : Int32))) &&& (255 : Int64)))), some (.int x7), some (.int ((((XT.ushr x2 ((((x8 >>> ((1 : Int32) &&& 31)) * (4 : Int32)) + (((2 : Int32) * x5) + (x8 &&& (1 : Int32)))) * (4 : Int32))) &&& (15 : Int32)) &&& v389) ||| ((v389 &&& (x7 ^^^ (-1 : Int32))) &&& (((Int64.toInt32 ((XT.ushrL x0 ((((x8 >>> ((1 : Int32) &&& 31)) * (4 : Int32)) + (((2 : Int32) * x5) + (x8 &&& (1 : Int32)))) * (8 : Int32))) &&& (255 : Int64))) &&& (3 : Int32)) ||| (12 : Int32)))))]) (st' := [.int ((15 : Int32) <<< (((((x8 >>> ((1 : Int32) &&& 31)) * (4 : Int32)) + (((2 : Int32) * x5) + (x8 &&& (1 : Int32)))) * (4 : Int32)) &&& 31)), .int x2]) rfl ?_
              refine wpl_sl (n := 5) (pc' := 142) (ls' := [some (.long x0), none, some (.int x2), some (.int x3), some (.int x4), some (.int x5), some (.int x6), some (.int x7), some (.int x8), some (.int (((2 : Int32) * x5) + (x8 &&& (1 : Int32)))), some (.int (((x8 >>> ((1 : Int32) &&& 31)) * (4 : Int32)) + (((2 : Int32) * x5) + (x8 &&& (1 : Int32))))), some (.int v389), some (.int (Int64.toInt32 ((XT.ushrL x0 ((((x8 >>> ((1 : Int32) &&& 31)) * (4 : Int32)) + (((2 : Int32) * x5) + (x8 &&& (1 : Int32)))) * (8 : Int32))) &&& (255 : Int64)))), some (.int x7), some (.int ((((XT.ushr x2 ((((x8 >>> ((1 : Int32) &&& 31)) * (4 : Int32)) + (((2 : Int32) * x5) + (x8 &&& (1 : Int32)))) * (4 : Int32))) &&& (15 : Int32)) &&& v389) ||| ((v389 &&& (x7 ^^^ (-1 : Int32))) &&& (((Int64.toInt32 ((XT.ushrL x0 ((((x8 >>> ((1 : Int32) &&& 31)) * (4 : Int32)) + (((2 : Int32) * x5) + (x8 &&& (1 : Int32)))) * (8 : Int32))) &&& (255 : Int64))) &&& (3 : Int32)) ||| (12 : Int32)))))]) (st' := [.int (((x8 >>> ((1 : Int32) &&& 31)) * (4 : Int32)) + (((2 : Int32) * x5) + (x8 &&& (1 : Int32)))), .int ((((XT.ushr x2 ((((x8 >>> ((1 : Int32) &&& 31)) * (4 : Int32)) + (((2 : Int32) * x5) + (x8 &&& (1 : Int32)))) * (4 : Int32))) &&& (15 : Int32)) &&& v389) ||| ((v389 &&& (x7 ^^^ (-1 : Int32))) &&& (((Int64.toInt32 ((XT.ushrL x0 ((((x8 >>> ((1 : Int32) &&& 31)) * (4 : Int32)) + (((2 : Int32) * x5) + (x8 &&& (1 : Int32)))) * (8 : Int32))) &&& (255 : Int64))) &&& (3 : Int32)) ||| (12 : Int32)))), .int (x2 &&& (((15 : Int32) <<< (((((x8 >>> ((1 : Int32) &&& 31)) * (4 : Int32)) + (((2 : Int32) * x5) + (x8 &&& (1 : Int32)))) * (4 : Int32)) &&& 31)) ^^^ (-1 : Int32)))]) rfl ?_
              refine wpl_sl (n := 5) (pc' := 147) (ls' := [some (.long x0), none, some (.int ((x2 &&& (((15 : Int32) <<< (((((x8 >>> ((1 : Int32) &&& 31)) * (4 : Int32)) + (((2 : Int32) * x5) + (x8 &&& (1 : Int32)))) * (4 : Int32)) &&& 31)) ^^^ (-1 : Int32))) ||| (((((XT.ushr x2 ((((x8 >>> ((1 : Int32) &&& 31)) * (4 : Int32)) + (((2 : Int32) * x5) + (x8 &&& (1 : Int32)))) * (4 : Int32))) &&& (15 : Int32)) &&& v389) ||| ((v389 &&& (x7 ^^^ (-1 : Int32))) &&& (((Int64.toInt32 ((XT.ushrL x0 ((((x8 >>> ((1 : Int32) &&& 31)) * (4 : Int32)) + (((2 : Int32) * x5) + (x8 &&& (1 : Int32)))) * (8 : Int32))) &&& (255 : Int64))) &&& (3 : Int32)) ||| (12 : Int32)))) <<< (((((x8 >>> ((1 : Int32) &&& 31)) * (4 : Int32)) + (((2 : Int32) * x5) + (x8 &&& (1 : Int32)))) * (4 : Int32)) &&& 31)))), some (.int x3), some (.int x4), some (.int x5), some (.int x6), some (.int x7), some (.int x8), some (.int (((2 : Int32) * x5) + (x8 &&& (1 : Int32)))), some (.int (((x8 >>> ((1 : Int32) &&& 31)) * (4 : Int32)) + (((2 : Int32) * x5) + (x8 &&& (1 : Int32))))), some (.int v389), some (.int (Int64.toInt32 ((XT.ushrL x0 ((((x8 >>> ((1 : Int32) &&& 31)) * (4 : Int32)) + (((2 : Int32) * x5) + (x8 &&& (1 : Int32)))) * (8 : Int32))) &&& (255 : Int64)))), some (.int x7), some (.int ((((XT.ushr x2 ((((x8 >>> ((1 : Int32) &&& 31)) * (4 : Int32)) + (((2 : Int32) * x5) + (x8 &&& (1 : Int32)))) * (4 : Int32))) &&& (15 : Int32)) &&& v389) ||| ((v389 &&& (x7 ^^^ (-1 : Int32))) &&& (((Int64.toInt32 ((XT.ushrL x0 ((((x8 >>> ((1 : Int32) &&& 31)) * (4 : Int32)) + (((2 : Int32) * x5) + (x8 &&& (1 : Int32)))) * (8 : Int32))) &&& (255 : Int64))) &&& (3 : Int32)) ||| (12 : Int32)))))]) (st' := []) rfl ?_
              first | exact hm393 _ (by simp only [if_neg hc395, if_neg hc396, if_pos hc397, if_neg hc398, if_neg hc399]) | exact wpl_lle (by repeat (first | exact trivial | refine ⟨rfl, ?_⟩)) (hm393 _ (by simp only [if_neg hc395, if_neg hc396, if_pos hc397, if_neg hc398, if_neg hc399]))
        · first | exact hm393 _ (by simp only [if_neg hc395, if_neg hc396, if_neg hc397]) | exact wpl_lle (by repeat (first | exact trivial | refine ⟨rfl, ?_⟩)) (hm393 _ (by simp only [if_neg hc395, if_neg hc396, if_neg hc397]))
  · have h387 := h.2 hc385
    refine wpl_sl (n := 1) (pc' := 154) (ls' := [some (.long x0), none, some (.int x2), some (.int x3), some (.int x4), some (.int x5), some (.int x6), some (.int x7), some (.int x8), none, none, none, none, none, none]) (st' := [.int x2]) rfl ?_
    exact wpl_ret rfl rfl rfl ⟨x2, rfl, h387⟩
theorem c17_in (a1 : Int32) (s : St) (Q : Int32 → St → Prop) (h : calI PP 3 11 [.ref 0, .int a1] s (fun v401 s400 => ((v401 = (0 : Int32)) → Q (-1 : Int32) s400) ∧ (¬ (v401 = (0 : Int32)) → (((a1 &&& (1 : Int32)) = (0 : Int32)) → inb 8 (a1 >>> ((1 : Int32) &&& 31)) ∧ (((gI s400 5 (ix (a1 >>> ((1 : Int32) &&& 31)))) = (0 : Int32)) → inb 8 (a1 >>> ((1 : Int32) &&& 31)) ∧ (((gI s400 2 (ix (a1 >>> ((1 : Int32) &&& 31)))) = (0 : Int32)) → Q (-3 : Int32) s400) ∧ (¬ ((gI s400 2 (ix (a1 >>> ((1 : Int32) &&& 31)))) = (0 : Int32)) → Q (-2 : Int32) s400)) ∧ (¬ ((gI s400 5 (ix (a1 >>> ((1 : Int32) &&& 31)))) = (0 : Int32)) → calI PP 4 11 [.ref 0, .int ((2 : Int32) * (a1 >>> ((1 : Int32) &&& 31)))] s400 (fun v418 s417 => calI PP 4 11 [.ref 0, .int (((2 : Int32) * (a1 >>> ((1 : Int32) &&& 31))) + (1 : Int32))] s417 (fun v421 s420 => inb 8 (a1 >>> ((1 : Int32) &&& 31)) ∧ inb 128 (((a1 >>> ((1 : Int32) &&& 31)) * (16 : Int32)) + ((gI s420 4 (ix (a1 >>> ((1 : Int32) &&& 31)))) &&& (15 : Int32))) ∧ inb 8 (a1 >>> ((1 : Int32) &&& 31)) ∧ inb 8 (a1 >>> ((1 : Int32) &&& 31)) ∧ inb 8 (a1 >>> ((1 : Int32) &&& 31)) ∧ inb 8 (a1 >>> ((1 : Int32) &&& 31)) ∧ calV PP 13 11 [.ref 0, .int ((2 : Int32) * (a1 >>> ((1 : Int32) &&& 31))), .int v418] (sI (sI s420 4 (ix (a1 >>> ((1 : Int32) &&& 31))) (((gI s420 4 (ix (a1 >>> ((1 : Int32) &&& 31)))) + (1 : Int32)) &&& (15 : Int32))) 5 (ix (a1 >>> ((1 : Int32) &&& 31))) ((gI s420 5 (ix (a1 >>> ((1 : Int32) &&& 31)))) - (1 : Int32))) (fun s429 => calV PP 13 11 [.ref 0, .int (((2 : Int32) * (a1 >>> ((1 : Int32) &&& 31))) + (1 : Int32)), .int v421] s429 (fun s432 => Q (gI s420 3 (ix (((a1 >>> ((1 : Int32) &&& 31)) * (16 : Int32)) + ((gI s420 4 (ix (a1 >>> ((1 : Int32) &&& 31)))) &&& (15 : Int32))))) s432)))))) ∧ (¬ ((a1 &&& (1 : Int32)) = (0 : Int32)) → Q (-1 : Int32) s400)))) : calI PP 17 11 [.ref 0, .int a1] s Q := by
  refine cal_of (me := cm17) (ls := [some (.ref 0), some (.int a1), none, none, none, none]) rfl (Nat.le_of_ble_eq_true rfl) rfl ?_
  refine wpc_sl (n := 2) (c' := 11) (pc' := 2) (ls' := [some (.ref 0), some (.int a1), none, none, none, none]) (st' := [.int a1, .ref 0]) (s' := s) rfl ?_
  refine wpc_callI (m' := 3) (me' := cm3) (as := [.int a1]) (r := []) rfl rfl rfl rfl rfl ⟨by decide, (by first | decide | exact Nat.le_of_ble_eq_true rfl), (by first | decide | exact Nat.le_of_ble_eq_true rfl), rfl⟩ (calI.mono h fun v401 s400 h402 => ?_)
  refine wpc_if (a := 14) (b := 8) rfl (by decide) rfl rfl (wpc_br (p := v401 = (0 : Int32)) ⟨fun hc403 => ?_, fun hc403 => ?_⟩)
  · have h404 := h402.1 hc403
    refine wpc_sl (n := 1) (c' := 11) (pc' := 15) (ls' := [some (.ref 0), some (.int a1), none, none, none, none]) (st' := [.int (-1 : Int32)]) (s' := s400) rfl ?_
    exact wpc_ret rfl rfl (fun q => absurd q (by decide)) rfl ⟨(-1 : Int32), rfl, h404⟩
  · have h405 := h402.2 hc403
    refine wpc_sl (n := 3) (c' := 11) (pc' := 11) (ls' := [some (.ref 0), some (.int a1), none, none, none, none]) (st' := [.int (a1 &&& (1 : Int32))]) (s' := s400) rfl ?_
    refine wpc_if (a := 16) (b := 14) rfl (by decide) rfl rfl (wpc_br (p := (a1 &&& (1 : Int32)) = (0 : Int32)) ⟨fun hc406 => ?_, fun hc406 => ?_⟩)
    · have h407 := h405.1 hc406
      refine wpc_sl (n := 7) (c' := 11) (pc' := 25) (ls' := [some (.ref 0), some (.int a1), some (.int (a1 >>> ((1 : Int32) &&& 31))), none, none, none]) (st' := [.int (a1 >>> ((1 : Int32) &&& 31)), .ref 5]) (s' := s400) rfl ?_
      refine wpc_ldaI (a := 4) (N := 8) (v := (gI s400 5 (ix (a1 >>> ((1 : Int32) &&& 31))))) rfl rfl (by decide) h407.1 rfl ?_
      have h409 := h407.2
      refine wpc_if (a := 44) (b := 29) rfl (by decide) rfl rfl (wpc_br (p := (gI s400 5 (ix (a1 >>> ((1 : Int32) &&& 31)))) = (0 : Int32)) ⟨fun hc410 => ?_, fun hc410 => ?_⟩)
      · have h411 := h409.1 hc410
        refine wpc_sl (n := 3) (c' := 11) (pc' := 34) (ls' := [some (.ref 0), some (.int a1), some (.int (a1 >>> ((1 : Int32) &&& 31))), none, none, none]) (st' := [.int (a1 >>> ((1 : Int32) &&& 31)), .ref 2]) (s' := s400) rfl ?_
        refine wpc_ldaZ (a := 1) (N := 8) (v := (gI s400 2 (ix (a1 >>> ((1 : Int32) &&& 31))))) rfl rfl (by decide) h411.1 rfl ?_
        have h413 := h411.2
        refine wpc_if (a := 41) (b := 38) rfl (by decide) rfl rfl (wpc_br (p := (gI s400 2 (ix (a1 >>> ((1 : Int32) &&& 31)))) = (0 : Int32)) ⟨fun hc414 => ?_, fun hc414 => ?_⟩)
        · have h415 := h413.1 hc414
          refine wpc_sl (n := 1) (c' := 11) (pc' := 43) (ls' := [some (.ref 0), some (.int a1), some (.int (a1 >>> ((1 : Int32) &&& 31))), none, none, none]) (st' := [.int (-3 : Int32)]) (s' := s400) rfl ?_
          exact wpc_ret rfl rfl (fun q => absurd q (by decide)) rfl ⟨(-3 : Int32), rfl, h415⟩
        · have h416 := h413.2 hc414
          refine wpc_sl (n := 1) (c' := 11) (pc' := 40) (ls' := [some (.ref 0), some (.int a1), some (.int (a1 >>> ((1 : Int32) &&& 31))), none, none, none]) (st' := [.int (-2 : Int32)]) (s' := s400) rfl ?_
          exact wpc_ret rfl rfl (fun q => absurd q (by decide)) rfl ⟨(-2 : Int32), rfl, h416⟩
      · have h412 := h409.2 hc410
        refine wpc_sl (n := 4) (c' := 11) (pc' := 48) (ls' := [some (.ref 0), some (.int a1), some (.int (a1 >>> ((1 : Int32) &&& 31))), none, none, none]) (st' := [.int ((2 : Int32) * (a1 >>> ((1 : Int32) &&& 31))), .ref 0]) (s' := s400) rfl ?_
        refine wpc_callI (m' := 4) (me' := cm4) (as := [.int ((2 : Int32) * (a1 >>> ((1 : Int32) &&& 31)))]) (r := []) rfl rfl rfl rfl rfl ⟨by decide, (by first | decide | exact Nat.le_of_ble_eq_true rfl), (by first | decide | exact Nat.le_of_ble_eq_true rfl), rfl⟩ (calI.mono h412 fun v418 s417 h419 => ?_)
        refine wpc_sl (n := 7) (c' := 11) (pc' := 58) (ls' := [some (.ref 0), some (.int a1), some (.int (a1 >>> ((1 : Int32) &&& 31))), some (.int v418), none, none]) (st' := [.int (((2 : Int32) * (a1 >>> ((1 : Int32) &&& 31))) + (1 : Int32)), .ref 0]) (s' := s417) rfl ?_
        refine wpc_callI (m' := 4) (me' := cm4) (as := [.int (((2 : Int32) * (a1 >>> ((1 : Int32) &&& 31))) + (1 : Int32))]) (r := []) rfl rfl rfl rfl rfl ⟨by decide, (by first | decide | exact Nat.le_of_ble_eq_true rfl), (by first | decide | exact Nat.le_of_ble_eq_true rfl), rfl⟩ (calI.mono h419 fun v421 s420 h422 => ?_)
        refine wpc_sl (n := 9) (c' := 11) (pc' := 76) (ls' := [some (.ref 0), some (.int a1), some (.int (a1 >>> ((1 : Int32) &&& 31))), some (.int v418), some (.int v421), none]) (st' := [.int (a1 >>> ((1 : Int32) &&& 31)), .ref 4, .int ((a1 >>> ((1 : Int32) &&& 31)) * (16 : Int32)), .ref 3]) (s' := s420) rfl ?_
        refine wpc_ldaI (a := 3) (N := 8) (v := (gI s420 4 (ix (a1 >>> ((1 : Int32) &&& 31))))) rfl rfl (by decide) h422.1 rfl ?_
        have h423 := h422.2
        refine wpc_sl (n := 3) (c' := 11) (pc' := 81) (ls' := [some (.ref 0), some (.int a1), some (.int (a1 >>> ((1 : Int32) &&& 31))), some (.int v418), some (.int v421), none]) (st' := [.int (((a1 >>> ((1 : Int32) &&& 31)) * (16 : Int32)) + ((gI s420 4 (ix (a1 >>> ((1 : Int32) &&& 31)))) &&& (15 : Int32))), .ref 3]) (s' := s420) rfl ?_
        refine wpc_ldaI (a := 2) (N := 128) (v := (gI s420 3 (ix (((a1 >>> ((1 : Int32) &&& 31)) * (16 : Int32)) + ((gI s420 4 (ix (a1 >>> ((1 : Int32) &&& 31)))) &&& (15 : Int32)))))) rfl rfl (by decide) h423.1 rfl ?_
        have h424 := h423.2
        refine wpc_sl (n := 7) (c' := 11) (pc' := 94) (ls' := [some (.ref 0), some (.int a1), some (.int (a1 >>> ((1 : Int32) &&& 31))), some (.int v418), some (.int v421), some (.int (gI s420 3 (ix (((a1 >>> ((1 : Int32) &&& 31)) * (16 : Int32)) + ((gI s420 4 (ix (a1 >>> ((1 : Int32) &&& 31)))) &&& (15 : Int32))))))]) (st' := [.int (a1 >>> ((1 : Int32) &&& 31)), .ref 4, .int (a1 >>> ((1 : Int32) &&& 31)), .ref 4]) (s' := s420) rfl ?_
        refine wpc_ldaI (a := 3) (N := 8) (v := (gI s420 4 (ix (a1 >>> ((1 : Int32) &&& 31))))) rfl rfl (by decide) h424.1 rfl ?_
        have h425 := h424.2
        refine wpc_sl (n := 4) (c' := 11) (pc' := 100) (ls' := [some (.ref 0), some (.int a1), some (.int (a1 >>> ((1 : Int32) &&& 31))), some (.int v418), some (.int v421), some (.int (gI s420 3 (ix (((a1 >>> ((1 : Int32) &&& 31)) * (16 : Int32)) + ((gI s420 4 (ix (a1 >>> ((1 : Int32) &&& 31)))) &&& (15 : Int32))))))]) (st' := [.int (((gI s420 4 (ix (a1 >>> ((1 : Int32) &&& 31)))) + (1 : Int32)) &&& (15 : Int32)), .int (a1 >>> ((1 : Int32) &&& 31)), .ref 4]) (s' := s420) rfl ?_
        refine wpc_staI (a := 3) (N := 8) (s' := (sI s420 4 (ix (a1 >>> ((1 : Int32) &&& 31))) (((gI s420 4 (ix (a1 >>> ((1 : Int32) &&& 31)))) + (1 : Int32)) &&& (15 : Int32)))) rfl rfl (by decide) h425.1 rfl ?_
        have h426 := h425.2
        refine wpc_sl (n := 6) (c' := 11) (pc' := 111) (ls' := [some (.ref 0), some (.int a1), some (.int (a1 >>> ((1 : Int32) &&& 31))), some (.int v418), some (.int v421), some (.int (gI s420 3 (ix (((a1 >>> ((1 : Int32) &&& 31)) * (16 : Int32)) + ((gI s420 4 (ix (a1 >>> ((1 : Int32) &&& 31)))) &&& (15 : Int32))))))]) (st' := [.int (a1 >>> ((1 : Int32) &&& 31)), .ref 5, .int (a1 >>> ((1 : Int32) &&& 31)), .ref 5]) (s' := (sI s420 4 (ix (a1 >>> ((1 : Int32) &&& 31))) (((gI s420 4 (ix (a1 >>> ((1 : Int32) &&& 31)))) + (1 : Int32)) &&& (15 : Int32)))) rfl ?_
        refine wpc_ldaI (a := 4) (N := 8) (v := (gI s420 5 (ix (a1 >>> ((1 : Int32) &&& 31))))) rfl rfl (by decide) h426.1 rfl ?_
        have h427 := h426.2
        refine wpc_sl (n := 2) (c' := 11) (pc' := 114) (ls' := [some (.ref 0), some (.int a1), some (.int (a1 >>> ((1 : Int32) &&& 31))), some (.int v418), some (.int v421), some (.int (gI s420 3 (ix (((a1 >>> ((1 : Int32) &&& 31)) * (16 : Int32)) + ((gI s420 4 (ix (a1 >>> ((1 : Int32) &&& 31)))) &&& (15 : Int32))))))]) (st' := [.int ((gI s420 5 (ix (a1 >>> ((1 : Int32) &&& 31)))) - (1 : Int32)), .int (a1 >>> ((1 : Int32) &&& 31)), .ref 5]) (s' := (sI s420 4 (ix (a1 >>> ((1 : Int32) &&& 31))) (((gI s420 4 (ix (a1 >>> ((1 : Int32) &&& 31)))) + (1 : Int32)) &&& (15 : Int32)))) rfl ?_
        refine wpc_staI (a := 4) (N := 8) (s' := (sI (sI s420 4 (ix (a1 >>> ((1 : Int32) &&& 31))) (((gI s420 4 (ix (a1 >>> ((1 : Int32) &&& 31)))) + (1 : Int32)) &&& (15 : Int32))) 5 (ix (a1 >>> ((1 : Int32) &&& 31))) ((gI s420 5 (ix (a1 >>> ((1 : Int32) &&& 31)))) - (1 : Int32)))) rfl rfl (by decide) h427.1 rfl ?_
        have h428 := h427.2
        refine wpc_sl (n := 5) (c' := 11) (pc' := 120) (ls' := [some (.ref 0), some (.int a1), some (.int (a1 >>> ((1 : Int32) &&& 31))), some (.int v418), some (.int v421), some (.int (gI s420 3 (ix (((a1 >>> ((1 : Int32) &&& 31)) * (16 : Int32)) + ((gI s420 4 (ix (a1 >>> ((1 : Int32) &&& 31)))) &&& (15 : Int32))))))]) (st' := [.int v418, .int ((2 : Int32) * (a1 >>> ((1 : Int32) &&& 31))), .ref 0]) (s' := (sI (sI s420 4 (ix (a1 >>> ((1 : Int32) &&& 31))) (((gI s420 4 (ix (a1 >>> ((1 : Int32) &&& 31)))) + (1 : Int32)) &&& (15 : Int32))) 5 (ix (a1 >>> ((1 : Int32) &&& 31))) ((gI s420 5 (ix (a1 >>> ((1 : Int32) &&& 31)))) - (1 : Int32)))) rfl ?_
        refine wpc_callV (m' := 13) (me' := cm13) (as := [.int ((2 : Int32) * (a1 >>> ((1 : Int32) &&& 31))), .int v418]) (r := []) rfl rfl rfl rfl rfl ⟨by decide, (by first | decide | exact Nat.le_of_ble_eq_true rfl), (by first | decide | exact Nat.le_of_ble_eq_true rfl), rfl⟩ (calV.mono h428 fun s429 h431 => ?_)
        refine wpc_sl (n := 7) (c' := 11) (pc' := 131) (ls' := [some (.ref 0), some (.int a1), some (.int (a1 >>> ((1 : Int32) &&& 31))), some (.int v418), some (.int v421), some (.int (gI s420 3 (ix (((a1 >>> ((1 : Int32) &&& 31)) * (16 : Int32)) + ((gI s420 4 (ix (a1 >>> ((1 : Int32) &&& 31)))) &&& (15 : Int32))))))]) (st' := [.int v421, .int (((2 : Int32) * (a1 >>> ((1 : Int32) &&& 31))) + (1 : Int32)), .ref 0]) (s' := s429) rfl ?_
        refine wpc_callV (m' := 13) (me' := cm13) (as := [.int (((2 : Int32) * (a1 >>> ((1 : Int32) &&& 31))) + (1 : Int32)), .int v421]) (r := []) rfl rfl rfl rfl rfl ⟨by decide, (by first | decide | exact Nat.le_of_ble_eq_true rfl), (by first | decide | exact Nat.le_of_ble_eq_true rfl), rfl⟩ (calV.mono h431 fun s432 h434 => ?_)
        refine wpc_sl (n := 1) (c' := 11) (pc' := 136) (ls' := [some (.ref 0), some (.int a1), some (.int (a1 >>> ((1 : Int32) &&& 31))), some (.int v418), some (.int v421), some (.int (gI s420 3 (ix (((a1 >>> ((1 : Int32) &&& 31)) * (16 : Int32)) + ((gI s420 4 (ix (a1 >>> ((1 : Int32) &&& 31)))) &&& (15 : Int32))))))]) (st' := [.int (gI s420 3 (ix (((a1 >>> ((1 : Int32) &&& 31)) * (16 : Int32)) + ((gI s420 4 (ix (a1 >>> ((1 : Int32) &&& 31)))) &&& (15 : Int32)))))]) (s' := s432) rfl ?_
        exact wpc_ret rfl rfl (fun q => absurd q (by decide)) rfl ⟨(gI s420 3 (ix (((a1 >>> ((1 : Int32) &&& 31)) * (16 : Int32)) + ((gI s420 4 (ix (a1 >>> ((1 : Int32) &&& 31)))) &&& (15 : Int32))))), rfl, h434⟩
    · have h408 := h405.2 hc406
      refine wpc_sl (n := 1) (c' := 11) (pc' := 15) (ls' := [some (.ref 0), some (.int a1), none, none, none, none]) (st' := [.int (-1 : Int32)]) (s' := s400) rfl ?_
      exact wpc_ret rfl rfl (fun q => absurd q (by decide)) rfl ⟨(-1 : Int32), rfl, h408⟩
theorem c11_in (a1 : Int32) (s : St) (Q : St → Prop) (h : inb 64 a1 ∧ inb 64 a1 ∧ inb 64 a1 ∧ inb 64 a1 ∧ Q (sI (sI (sI (sI s 6 (ix a1) (0 : Int32)) 7 (ix a1) (0 : Int32)) 8 (ix a1) (0 : Int32)) 9 (ix a1) (0 : Int32))) : calV PP 11 11 [.ref 0, .int a1] s Q := by
  refine cal_of (me := cm11) (ls := [some (.ref 0), some (.int a1)]) rfl (Nat.le_of_ble_eq_true rfl) rfl ?_
  refine wpc_sl (n := 4) (c' := 11) (pc' := 6) (ls' := [some (.ref 0), some (.int a1)]) (st' := [.int (0 : Int32), .int a1, .ref 6]) (s' := s) rfl ?_
  refine wpc_staZ (a := 5) (N := 64) (s' := (sI s 6 (ix a1) (0 : Int32))) rfl rfl (by decide) h.1 rfl ?_
  have h470 := h.2
  refine wpc_sl (n := 4) (c' := 11) (pc' := 13) (ls' := [some (.ref 0), some (.int a1)]) (st' := [.int (0 : Int32), .int a1, .ref 7]) (s' := (sI s 6 (ix a1) (0 : Int32))) rfl ?_
  refine wpc_staI (a := 6) (N := 64) (s' := (sI (sI s 6 (ix a1) (0 : Int32)) 7 (ix a1) (0 : Int32))) rfl rfl (by decide) h470.1 rfl ?_
  have h471 := h470.2
  refine wpc_sl (n := 4) (c' := 11) (pc' := 20) (ls' := [some (.ref 0), some (.int a1)]) (st' := [.int (0 : Int32), .int a1, .ref 8]) (s' := (sI (sI s 6 (ix a1) (0 : Int32)) 7 (ix a1) (0 : Int32))) rfl ?_
  refine wpc_staZ (a := 7) (N := 64) (s' := (sI (sI (sI s 6 (ix a1) (0 : Int32)) 7 (ix a1) (0 : Int32)) 8 (ix a1) (0 : Int32))) rfl rfl (by decide) h471.1 rfl ?_
  have h472 := h471.2
  refine wpc_sl (n := 4) (c' := 11) (pc' := 27) (ls' := [some (.ref 0), some (.int a1)]) (st' := [.int (0 : Int32), .int a1, .ref 9]) (s' := (sI (sI (sI s 6 (ix a1) (0 : Int32)) 7 (ix a1) (0 : Int32)) 8 (ix a1) (0 : Int32))) rfl ?_
  refine wpc_staI (a := 8) (N := 64) (s' := (sI (sI (sI (sI s 6 (ix a1) (0 : Int32)) 7 (ix a1) (0 : Int32)) 8 (ix a1) (0 : Int32)) 9 (ix a1) (0 : Int32))) rfl rfl (by decide) h472.1 rfl ?_
  have h473 := h472.2
  exact wpc_ret rfl rfl (fun q => absurd q (by decide)) rfl ⟨rfl, h473⟩
theorem c12_in (a1 : Int32) (s : St) (Q : St → Prop) (h : wpcV PP 12 cm12 11 2 [some (.ref 0), some (.int a1), some (.int (0 : Int32))] [] s Q) : calV PP 12 11 [.ref 0, .int a1] s Q := by
  refine cal_of (me := cm12) (ls := [some (.ref 0), some (.int a1), none]) rfl (Nat.le_of_ble_eq_true rfl) rfl ?_
  refine wpc_sl (n := 2) (c' := 11) (pc' := 2) (ls' := [some (.ref 0), some (.int a1), some (.int (0 : Int32))]) (st' := []) (s' := s) rfl ?_
  exact h
theorem c12_2 (x1 : Int32) (x2 : Int32) (s : St) (Q : St → Prop) (h : ((x2 < (gI s 0 19)) → calI PP 8 11 [.ref 0, .int x2, .int x1] s (fun v465 s464 => calV PP 11 11 [.ref 0, .int v465] s464 (fun s467 => wpcV PP 12 cm12 11 2 [some (.ref 0), some (.int x1), some (.int (x2 + (1 : Int32)))] [] s467 Q))) ∧ (¬ (x2 < (gI s 0 19)) → Q s)) : wpcV PP 12 cm12 11 2 [some (.ref 0), some (.int x1), some (.int x2)] [] s Q := by
  refine wpc_sl (n := 3) (c' := 11) (pc' := 7) (ls' := [some (.ref 0), some (.int x1), some (.int x2)]) (st' := [.int (gI s 0 19), .int x2]) (s' := s) rfl ?_
  refine wpc_icmp (a := 26) (b := 10) rfl (by decide) rfl rfl (wpc_br (p := x2 < (gI s 0 19)) ⟨fun hc461 => ?_, fun hc461 => ?_⟩)
  · have h462 := h.1 hc461
    refine wpc_sl (n := 4) (c' := 11) (pc' := 14) (ls' := [some (.ref 0), some (.int x1), some (.int x2)]) (st' := [.int x1, .int x2, .ref 0, .ref 0]) (s' := s) rfl ?_
    refine wpc_callI (m' := 8) (me' := cm8) (as := [.int x2, .int x1]) (r := [.ref 0]) rfl rfl rfl rfl rfl ⟨by decide, (by first | decide | exact Nat.le_of_ble_eq_true rfl), (by first | decide | exact Nat.le_of_ble_eq_true rfl), rfl⟩ (calI.mono h462 fun v465 s464 h466 => ?_)
    refine wpc_callV (m' := 11) (me' := cm11) (as := [.int v465]) (r := []) rfl rfl rfl rfl rfl ⟨by decide, (by first | decide | exact Nat.le_of_ble_eq_true rfl), (by first | decide | exact Nat.le_of_ble_eq_true rfl), rfl⟩ (calV.mono h466 fun s467 h469 => ?_)
    refine wpc_sl (n := 2) (c' := 11) (pc' := 2) (ls' := [some (.ref 0), some (.int x1), some (.int (x2 + (1 : Int32)))]) (st' := []) (s' := s467) rfl ?_
    exact h469
  · have h463 := h.2 hc461
    exact wpc_ret rfl rfl (fun q => absurd q (by decide)) rfl ⟨rfl, h463⟩
theorem c18_in (a1 : Int32) (s : St) (Q : Int32 → St → Prop) (h : calI PP 3 11 [.ref 0, .int a1] s (fun v436 s435 => ((v436 = (0 : Int32)) → Q (-1 : Int32) s435) ∧ (¬ (v436 = (0 : Int32)) → calI PP 3 11 [.ref 0, .int (a1 ^^^ (1 : Int32))] s435 (fun v442 s441 => ((v442 = (0 : Int32)) → wpcI PP 18 cm18 11 36 [some (.ref 0), some (.int a1), some (.int (a1 >>> ((1 : Int32) &&& 31))), some (.int (a1 ^^^ (1 : Int32))), some (.int (0 : Int32))] [] s441 Q) ∧ (¬ (v442 = (0 : Int32)) → calI PP 4 11 [.ref 0, .int (a1 ^^^ (1 : Int32))] s441 (fun v448 s447 => wpcI PP 18 cm18 11 36 [some (.ref 0), some (.int a1), some (.int (a1 >>> ((1 : Int32) &&& 31))), some (.int (a1 ^^^ (1 : Int32))), some (.int v448)] [] s447 Q)))))) : calI PP 18 11 [.ref 0, .int a1] s Q := by
  refine cal_of (me := cm18) (ls := [some (.ref 0), some (.int a1), none, none, none]) rfl (Nat.le_of_ble_eq_true rfl) rfl ?_
  refine wpc_sl (n := 2) (c' := 11) (pc' := 2) (ls' := [some (.ref 0), some (.int a1), none, none, none]) (st' := [.int a1, .ref 0]) (s' := s) rfl ?_
  refine wpc_callI (m' := 3) (me' := cm3) (as := [.int a1]) (r := []) rfl rfl rfl rfl rfl ⟨by decide, (by first | decide | exact Nat.le_of_ble_eq_true rfl), (by first | decide | exact Nat.le_of_ble_eq_true rfl), rfl⟩ (calI.mono h fun v436 s435 h437 => ?_)
  refine wpc_if (a := 10) (b := 8) rfl (by decide) rfl rfl (wpc_br (p := v436 = (0 : Int32)) ⟨fun hc438 => ?_, fun hc438 => ?_⟩)
  · have h439 := h437.1 hc438
    refine wpc_sl (n := 1) (c' := 11) (pc' := 9) (ls' := [some (.ref 0), some (.int a1), none, none, none]) (st' := [.int (-1 : Int32)]) (s' := s435) rfl ?_
    exact wpc_ret rfl rfl (fun q => absurd q (by decide)) rfl ⟨(-1 : Int32), rfl, h439⟩
  · have h440 := h437.2 hc438
    refine wpc_sl (n := 12) (c' := 11) (pc' := 23) (ls' := [some (.ref 0), some (.int a1), some (.int (a1 >>> ((1 : Int32) &&& 31))), some (.int (a1 ^^^ (1 : Int32))), some (.int (0 : Int32))]) (st' := [.int (a1 ^^^ (1 : Int32)), .ref 0]) (s' := s435) rfl ?_
    refine wpc_callI (m' := 3) (me' := cm3) (as := [.int (a1 ^^^ (1 : Int32))]) (r := []) rfl rfl rfl rfl rfl ⟨by decide, (by first | decide | exact Nat.le_of_ble_eq_true rfl), (by first | decide | exact Nat.le_of_ble_eq_true rfl), rfl⟩ (calI.mono h440 fun v442 s441 h443 => ?_)
    refine wpc_if (a := 36) (b := 29) rfl (by decide) rfl rfl (wpc_br (p := v442 = (0 : Int32)) ⟨fun hc444 => ?_, fun hc444 => ?_⟩)
    · have h445 := h443.1 hc444
      exact h445
    · have h446 := h443.2 hc444
      refine wpc_sl (n := 2) (c' := 11) (pc' := 31) (ls' := [some (.ref 0), some (.int a1), some (.int (a1 >>> ((1 : Int32) &&& 31))), some (.int (a1 ^^^ (1 : Int32))), some (.int (0 : Int32))]) (st' := [.int (a1 ^^^ (1 : Int32)), .ref 0]) (s' := s441) rfl ?_
      refine wpc_callI (m' := 4) (me' := cm4) (as := [.int (a1 ^^^ (1 : Int32))]) (r := []) rfl rfl rfl rfl rfl ⟨by decide, (by first | decide | exact Nat.le_of_ble_eq_true rfl), (by first | decide | exact Nat.le_of_ble_eq_true rfl), rfl⟩ (calI.mono h446 fun v448 s447 h449 => ?_)
      refine wpc_sl (n := 1) (c' := 11) (pc' := 36) (ls' := [some (.ref 0), some (.int a1), some (.int (a1 >>> ((1 : Int32) &&& 31))), some (.int (a1 ^^^ (1 : Int32))), some (.int v448)]) (st' := []) (s' := s447) rfl ?_
      exact h449
theorem c18_36 (x1 : Int32) (x2 : Int32) (x3 : Int32) (x4 : Int32) (s : St) (Q : Int32 → St → Prop) (h : (((x1 &&& (1 : Int32)) = (0 : Int32)) → inb 8 x2 ∧ wpcI PP 18 cm18 11 59 [some (.ref 0), some (.int x1), none, some (.int x3), some (.int x4)] [] (sI s 1 (ix x2) (0 : Int32)) Q) ∧ (¬ ((x1 &&& (1 : Int32)) = (0 : Int32)) → inb 8 x2 ∧ wpcI PP 18 cm18 11 59 [some (.ref 0), some (.int x1), none, some (.int x3), some (.int x4)] [] (sI s 2 (ix x2) (0 : Int32)) Q)) : wpcI PP 18 cm18 11 36 [some (.ref 0), some (.int x1), some (.int x2), some (.int x3), some (.int x4)] [] s Q := by
  refine wpc_sl (n := 3) (c' := 11) (pc' := 39) (ls' := [some (.ref 0), some (.int x1), some (.int x2), some (.int x3), some (.int x4)]) (st' := [.int (x1 &&& (1 : Int32))]) (s' := s) rfl ?_
  refine wpc_if (a := 52) (b := 42) rfl (by decide) rfl rfl (wpc_br (p := (x1 &&& (1 : Int32)) = (0 : Int32)) ⟨fun hc450 => ?_, fun hc450 => ?_⟩)
  · have h451 := h.1 hc450
    refine wpc_sl (n := 4) (c' := 11) (pc' := 48) (ls' := [some (.ref 0), some (.int x1), some (.int x2), some (.int x3), some (.int x4)]) (st' := [.int (0 : Int32), .int x2, .ref 1]) (s' := s) rfl ?_
    refine wpc_staZ (a := 0) (N := 8) (s' := (sI s 1 (ix x2) (0 : Int32))) rfl rfl (by decide) h451.1 rfl ?_
    have h453 := h451.2
    refine wpc_sl (n := 1) (c' := 11) (pc' := 59) (ls' := [some (.ref 0), some (.int x1), some (.int x2), some (.int x3), some (.int x4)]) (st' := []) (s' := (sI s 1 (ix x2) (0 : Int32))) rfl ?_
    exact wpc_lle (ls := [some (.ref 0), some (.int x1), none, some (.int x3), some (.int x4)]) ⟨rfl, rfl, rfl, rfl, trivial⟩ h453
  · have h452 := h.2 hc450
    refine wpc_sl (n := 4) (c' := 11) (pc' := 58) (ls' := [some (.ref 0), some (.int x1), some (.int x2), some (.int x3), some (.int x4)]) (st' := [.int (0 : Int32), .int x2, .ref 2]) (s' := s) rfl ?_
    refine wpc_staZ (a := 1) (N := 8) (s' := (sI s 2 (ix x2) (0 : Int32))) rfl rfl (by decide) h452.1 rfl ?_
    have h454 := h452.2
    exact wpc_lle (ls := [some (.ref 0), some (.int x1), none, some (.int x3), some (.int x4)]) ⟨rfl, rfl, rfl, rfl, trivial⟩ h454
theorem c18_59 (x1 : Int32) (x3 : Int32) (x4 : Int32) (s : St) (Q : Int32 → St → Prop) (h : calV PP 12 11 [.ref 0, .int x1] s (fun s455 => calV PP 13 11 [.ref 0, .int x3, .int x4] s455 (fun s458 => Q (0 : Int32) s458))) : wpcI PP 18 cm18 11 59 [some (.ref 0), some (.int x1), none, some (.int x3), some (.int x4)] [] s Q := by
  refine wpc_sl (n := 2) (c' := 11) (pc' := 61) (ls' := [some (.ref 0), some (.int x1), none, some (.int x3), some (.int x4)]) (st' := [.int x1, .ref 0]) (s' := s) rfl ?_
  refine wpc_callV (m' := 12) (me' := cm12) (as := [.int x1]) (r := []) rfl rfl rfl rfl rfl ⟨by decide, (by first | decide | exact Nat.le_of_ble_eq_true rfl), (by first | decide | exact Nat.le_of_ble_eq_true rfl), rfl⟩ (calV.mono h fun s455 h457 => ?_)
  refine wpc_sl (n := 3) (c' := 11) (pc' := 68) (ls' := [some (.ref 0), some (.int x1), none, some (.int x3), some (.int x4)]) (st' := [.int x4, .int x3, .ref 0]) (s' := s455) rfl ?_
  refine wpc_callV (m' := 13) (me' := cm13) (as := [.int x3, .int x4]) (r := []) rfl rfl rfl rfl rfl ⟨by decide, (by first | decide | exact Nat.le_of_ble_eq_true rfl), (by first | decide | exact Nat.le_of_ble_eq_true rfl), rfl⟩ (calV.mono h457 fun s458 h460 => ?_)
  refine wpc_sl (n := 1) (c' := 11) (pc' := 72) (ls' := [some (.ref 0), some (.int x1), none, some (.int x3), some (.int x4)]) (st' := [.int (0 : Int32)]) (s' := s458) rfl ?_
  exact wpc_ret rfl rfl (fun q => absurd q (by decide)) rfl ⟨(0 : Int32), rfl, h460⟩
theorem c6_in (a1 : Int32) (s : St) (Q : Int32 → St → Prop) (h : ((a1 < (0 : Int32)) → Q (0 : Int32) s) ∧ (¬ (a1 < (0 : Int32)) → ((a1 < (gI s 0 19)) → Q (1 : Int32) s) ∧ (¬ (a1 < (gI s 0 19)) → Q (0 : Int32) s))) : calI PP 6 11 [.ref 0, .int a1] s Q := by
  refine cal_of (me := cm6) (ls := [some (.ref 0), some (.int a1)]) rfl (Nat.le_of_ble_eq_true rfl) rfl ?_
  refine wpc_sl (n := 1) (c' := 11) (pc' := 1) (ls' := [some (.ref 0), some (.int a1)]) (st' := [.int a1]) (s' := s) rfl ?_
  refine wpc_if (a := 16) (b := 4) rfl (by decide) rfl rfl (wpc_br (p := a1 < (0 : Int32)) ⟨fun hc511 => ?_, fun hc511 => ?_⟩)
  · have h512 := h.1 hc511
    refine wpc_sl (n := 1) (c' := 11) (pc' := 17) (ls' := [some (.ref 0), some (.int a1)]) (st' := [.int (0 : Int32)]) (s' := s) rfl ?_
    exact wpc_ret rfl rfl (fun q => absurd q (by decide)) rfl ⟨(0 : Int32), rfl, h512⟩
  · have h513 := h.2 hc511
    refine wpc_sl (n := 3) (c' := 11) (pc' := 9) (ls' := [some (.ref 0), some (.int a1)]) (st' := [.int (gI s 0 19), .int a1]) (s' := s) rfl ?_
    refine wpc_icmp (a := 16) (b := 12) rfl (by decide) rfl rfl (wpc_br (p := a1 < (gI s 0 19)) ⟨fun hc514 => ?_, fun hc514 => ?_⟩)
    · have h515 := h513.1 hc514
      refine wpc_sl (n := 2) (c' := 11) (pc' := 17) (ls' := [some (.ref 0), some (.int a1)]) (st' := [.int (1 : Int32)]) (s' := s) rfl ?_
      exact wpc_ret rfl rfl (fun q => absurd q (by decide)) rfl ⟨(1 : Int32), rfl, h515⟩
    · have h516 := h513.2 hc514
      refine wpc_sl (n := 1) (c' := 11) (pc' := 17) (ls' := [some (.ref 0), some (.int a1)]) (st' := [.int (0 : Int32)]) (s' := s) rfl ?_
      exact wpc_ret rfl rfl (fun q => absurd q (by decide)) rfl ⟨(0 : Int32), rfl, h516⟩
theorem c9_in (a1 : Int32) (a2 : Int32) (s : St) (Q : Int32 → St → Prop) (h : inb 64 a1 ∧ (((gI s 8 (ix a1)) = (0 : Int32)) → Q (0 : Int32) s) ∧ (¬ ((gI s 8 (ix a1)) = (0 : Int32)) → inb 64 a1 ∧ ((((gI s 7 (ix a1)) &&& (16 : Int32)) = (0 : Int32)) → calI PP 4 11 [.ref 0, .int a2] s (fun v526 s525 => inb 64 a1 ∧ calI PP 5 11 [.ref 0, .int (gI s525 7 (ix a1))] s525 (fun v530 s529 => Q (v526 &&& v530) s529))) ∧ (¬ (((gI s 7 (ix a1)) &&& (16 : Int32)) = (0 : Int32)) → inb 64 a1 ∧ Q (gI s 9 (ix a1)) s))) : calI PP 9 11 [.ref 0, .int a1, .int a2] s Q := by
  refine cal_of (me := cm9) (ls := [some (.ref 0), some (.int a1), some (.int a2)]) rfl (Nat.le_of_ble_eq_true rfl) rfl ?_
  refine wpc_sl (n := 3) (c' := 11) (pc' := 5) (ls' := [some (.ref 0), some (.int a1), some (.int a2)]) (st' := [.int a1, .ref 8]) (s' := s) rfl ?_
  refine wpc_ldaZ (a := 7) (N := 64) (v := (gI s 8 (ix a1))) rfl rfl (by decide) h.1 rfl ?_
  have h517 := h.2
  refine wpc_if (a := 11) (b := 9) rfl (by decide) rfl rfl (wpc_br (p := (gI s 8 (ix a1)) = (0 : Int32)) ⟨fun hc518 => ?_, fun hc518 => ?_⟩)
  · have h519 := h517.1 hc518
    refine wpc_sl (n := 1) (c' := 11) (pc' := 10) (ls' := [some (.ref 0), some (.int a1), some (.int a2)]) (st' := [.int (0 : Int32)]) (s' := s) rfl ?_
    exact wpc_ret rfl rfl (fun q => absurd q (by decide)) rfl ⟨(0 : Int32), rfl, h519⟩
  · have h520 := h517.2 hc518
    refine wpc_sl (n := 3) (c' := 11) (pc' := 16) (ls' := [some (.ref 0), some (.int a1), some (.int a2)]) (st' := [.int a1, .ref 7]) (s' := s) rfl ?_
    refine wpc_ldaI (a := 6) (N := 64) (v := (gI s 7 (ix a1))) rfl rfl (by decide) h520.1 rfl ?_
    have h521 := h520.2
    refine wpc_sl (n := 2) (c' := 11) (pc' := 20) (ls' := [some (.ref 0), some (.int a1), some (.int a2)]) (st' := [.int ((gI s 7 (ix a1)) &&& (16 : Int32))]) (s' := s) rfl ?_
    refine wpc_if (a := 30) (b := 23) rfl (by decide) rfl rfl (wpc_br (p := ((gI s 7 (ix a1)) &&& (16 : Int32)) = (0 : Int32)) ⟨fun hc522 => ?_, fun hc522 => ?_⟩)
    · have h523 := h521.1 hc522
      refine wpc_sl (n := 2) (c' := 11) (pc' := 32) (ls' := [some (.ref 0), some (.int a1), some (.int a2)]) (st' := [.int a2, .ref 0]) (s' := s) rfl ?_
      refine wpc_callI (m' := 4) (me' := cm4) (as := [.int a2]) (r := []) rfl rfl rfl rfl rfl ⟨by decide, (by first | decide | exact Nat.le_of_ble_eq_true rfl), (by first | decide | exact Nat.le_of_ble_eq_true rfl), rfl⟩ (calI.mono h523 fun v526 s525 h527 => ?_)
      refine wpc_sl (n := 4) (c' := 11) (pc' := 41) (ls' := [some (.ref 0), some (.int a1), some (.int a2)]) (st' := [.int a1, .ref 7, .ref 0, .int v526]) (s' := s525) rfl ?_
      refine wpc_ldaI (a := 6) (N := 64) (v := (gI s525 7 (ix a1))) rfl rfl (by decide) h527.1 rfl ?_
      have h528 := h527.2
      refine wpc_callI (m' := 5) (me' := cm5) (as := [.int (gI s525 7 (ix a1))]) (r := [.int v526]) rfl rfl rfl rfl rfl ⟨by decide, (by first | decide | exact Nat.le_of_ble_eq_true rfl), (by first | decide | exact Nat.le_of_ble_eq_true rfl), rfl⟩ (calI.mono h528 fun v530 s529 h531 => ?_)
      refine wpc_sl (n := 1) (c' := 11) (pc' := 46) (ls' := [some (.ref 0), some (.int a1), some (.int a2)]) (st' := [.int (v526 &&& v530)]) (s' := s529) rfl ?_
      exact wpc_ret rfl rfl (fun q => absurd q (by decide)) rfl ⟨(v526 &&& v530), rfl, h531⟩
    · have h524 := h521.2 hc522
      refine wpc_sl (n := 3) (c' := 11) (pc' := 28) (ls' := [some (.ref 0), some (.int a1), some (.int a2)]) (st' := [.int a1, .ref 9]) (s' := s) rfl ?_
      refine wpc_ldaI (a := 8) (N := 64) (v := (gI s 9 (ix a1))) rfl rfl (by decide) h524.1 rfl ?_
      have h532 := h524.2
      exact wpc_ret rfl rfl (fun q => absurd q (by decide)) rfl ⟨(gI s 9 (ix a1)), rfl, h532⟩
theorem c23_in (a1 : Int32) (s : St) (Q : St → Prop) (h : inb 64 a1 ∧ ((((gI s 7 (ix a1)) &&& (32 : Int32)) = (0 : Int32)) → inb 64 a1 ∧ ((((gI s 7 (ix a1)) &&& (16 : Int32)) = (0 : Int32)) → Q s) ∧ (¬ (((gI s 7 (ix a1)) &&& (16 : Int32)) = (0 : Int32)) → inb 64 a1 ∧ Q (sI s 9 (ix a1) (0 : Int32)))) ∧ (¬ (((gI s 7 (ix a1)) &&& (32 : Int32)) = (0 : Int32)) → inb 64 a1 ∧ inb 64 a1 ∧ Q (sI (sI s 8 (ix a1) (0 : Int32)) 9 (ix a1) (0 : Int32)))) : calV PP 23 11 [.ref 0, .int a1] s Q := by
  refine cal_of (me := cm23) (ls := [some (.ref 0), some (.int a1)]) rfl (Nat.le_of_ble_eq_true rfl) rfl ?_
  refine wpc_sl (n := 3) (c' := 11) (pc' := 5) (ls' := [some (.ref 0), some (.int a1)]) (st' := [.int a1, .ref 7]) (s' := s) rfl ?_
  refine wpc_ldaI (a := 6) (N := 64) (v := (gI s 7 (ix a1))) rfl rfl (by decide) h.1 rfl ?_
  have h533 := h.2
  refine wpc_sl (n := 2) (c' := 11) (pc' := 9) (ls' := [some (.ref 0), some (.int a1)]) (st' := [.int ((gI s 7 (ix a1)) &&& (32 : Int32))]) (s' := s) rfl ?_
  refine wpc_if (a := 29) (b := 12) rfl (by decide) rfl rfl (wpc_br (p := ((gI s 7 (ix a1)) &&& (32 : Int32)) = (0 : Int32)) ⟨fun hc534 => ?_, fun hc534 => ?_⟩)
  · have h535 := h533.1 hc534
    refine wpc_sl (n := 3) (c' := 11) (pc' := 34) (ls' := [some (.ref 0), some (.int a1)]) (st' := [.int a1, .ref 7]) (s' := s) rfl ?_
    refine wpc_ldaI (a := 6) (N := 64) (v := (gI s 7 (ix a1))) rfl rfl (by decide) h535.1 rfl ?_
    have h537 := h535.2
    refine wpc_sl (n := 2) (c' := 11) (pc' := 38) (ls' := [some (.ref 0), some (.int a1)]) (st' := [.int ((gI s 7 (ix a1)) &&& (16 : Int32))]) (s' := s) rfl ?_
    refine wpc_if (a := 48) (b := 41) rfl (by decide) rfl rfl (wpc_br (p := ((gI s 7 (ix a1)) &&& (16 : Int32)) = (0 : Int32)) ⟨fun hc538 => ?_, fun hc538 => ?_⟩)
    · have h539 := h537.1 hc538
      exact wpc_ret rfl rfl (fun q => absurd q (by decide)) rfl ⟨rfl, h539⟩
    · have h540 := h537.2 hc538
      refine wpc_sl (n := 4) (c' := 11) (pc' := 47) (ls' := [some (.ref 0), some (.int a1)]) (st' := [.int (0 : Int32), .int a1, .ref 9]) (s' := s) rfl ?_
      refine wpc_staI (a := 8) (N := 64) (s' := (sI s 9 (ix a1) (0 : Int32))) rfl rfl (by decide) h540.1 rfl ?_
      have h541 := h540.2
      exact wpc_ret rfl rfl (fun q => absurd q (by decide)) rfl ⟨rfl, h541⟩
  · have h536 := h533.2 hc534
    refine wpc_sl (n := 4) (c' := 11) (pc' := 18) (ls' := [some (.ref 0), some (.int a1)]) (st' := [.int (0 : Int32), .int a1, .ref 8]) (s' := s) rfl ?_
    refine wpc_staZ (a := 7) (N := 64) (s' := (sI s 8 (ix a1) (0 : Int32))) rfl rfl (by decide) h536.1 rfl ?_
    have h542 := h536.2
    refine wpc_sl (n := 4) (c' := 11) (pc' := 25) (ls' := [some (.ref 0), some (.int a1)]) (st' := [.int (0 : Int32), .int a1, .ref 9]) (s' := (sI s 8 (ix a1) (0 : Int32))) rfl ?_
    refine wpc_staI (a := 8) (N := 64) (s' := (sI (sI s 8 (ix a1) (0 : Int32)) 9 (ix a1) (0 : Int32))) rfl rfl (by decide) h542.1 rfl ?_
    have h543 := h542.2
    refine wpc_sl (n := 1) (c' := 11) (pc' := 48) (ls' := [some (.ref 0), some (.int a1)]) (st' := []) (s' := (sI (sI s 8 (ix a1) (0 : Int32)) 9 (ix a1) (0 : Int32))) rfl ?_
    exact wpc_ret rfl rfl (fun q => absurd q (by decide)) rfl ⟨rfl, h543⟩
theorem c22_in (a1 : Int32) (a2 : Int32) (s : St) (Q : Int32 → St → Prop) (h : calI PP 6 11 [.ref 0, .int a1] s (fun v475 s474 => ((v475 = (0 : Int32)) → Q (-6 : Int32) s474) ∧ (¬ (v475 = (0 : Int32)) → ((a2 < (1 : Int32)) → Q (-6 : Int32) s474) ∧ (¬ (a2 < (1 : Int32)) → ∀ m483, m483 = (if (16 : Int32) < a2 then (16 : Int32) else a2) → (wpcI PP 22 cm22 11 43 [some (.ref 0), some (.int a1), none, some (.int m483), some (.int (0 : Int32)), some (.int ((2 : Int32) * (gI s474 0 17))), some (.int (0 : Int32)), none, none] [] s474 Q))))) : calI PP 22 11 [.ref 0, .int a1, .int a2] s Q := by
  refine cal_of (me := cm22) (ls := [some (.ref 0), some (.int a1), some (.int a2), none, none, none, none, none, none]) rfl (Nat.le_of_ble_eq_true rfl) rfl ?_
  refine wpc_sl (n := 2) (c' := 11) (pc' := 2) (ls' := [some (.ref 0), some (.int a1), some (.int a2), none, none, none, none, none, none]) (st' := [.int a1, .ref 0]) (s' := s) rfl ?_
  refine wpc_callI (m' := 6) (me' := cm6) (as := [.int a1]) (r := []) rfl rfl rfl rfl rfl ⟨by decide, (by first | decide | exact Nat.le_of_ble_eq_true rfl), (by first | decide | exact Nat.le_of_ble_eq_true rfl), rfl⟩ (calI.mono h fun v475 s474 h476 => ?_)
  refine wpc_if (a := 13) (b := 8) rfl (by decide) rfl rfl (wpc_br (p := v475 = (0 : Int32)) ⟨fun hc477 => ?_, fun hc477 => ?_⟩)
  · have h478 := h476.1 hc477
    refine wpc_sl (n := 1) (c' := 11) (pc' := 15) (ls' := [some (.ref 0), some (.int a1), some (.int a2), none, none, none, none, none, none]) (st' := [.int (-6 : Int32)]) (s' := s474) rfl ?_
    exact wpc_ret rfl rfl (fun q => absurd q (by decide)) rfl ⟨(-6 : Int32), rfl, h478⟩
  · have h479 := h476.2 hc477
    refine wpc_sl (n := 2) (c' := 11) (pc' := 10) (ls' := [some (.ref 0), some (.int a1), some (.int a2), none, none, none, none, none, none]) (st' := [.int (1 : Int32), .int a2]) (s' := s474) rfl ?_
    refine wpc_icmp (a := 16) (b := 13) rfl (by decide) rfl rfl (wpc_br (p := a2 < (1 : Int32)) ⟨fun hc480 => ?_, fun hc480 => ?_⟩)
    · have h481 := h479.1 hc480
      refine wpc_sl (n := 1) (c' := 11) (pc' := 15) (ls' := [some (.ref 0), some (.int a1), some (.int a2), none, none, none, none, none, none]) (st' := [.int (-6 : Int32)]) (s' := s474) rfl ?_
      exact wpc_ret rfl rfl (fun q => absurd q (by decide)) rfl ⟨(-6 : Int32), rfl, h481⟩
    · have h482 := h479.2 hc480
      refine wpc_sl (n := 2) (c' := 11) (pc' := 19) (ls' := [some (.ref 0), some (.int a1), some (.int a2), none, none, none, none, none, none]) (st' := [.int (16 : Int32), .int a2]) (s' := s474) rfl ?_
      have hm484 : ∀ m483, m483 = (if (16 : Int32) < a2 then (16 : Int32) else a2) → wpcI PP 22 cm22 11 28 [some (.ref 0), some (.int a1), some (.int a2), none, none, none, none, none, none] [.int m483] s474 Q := by
        intro m483 em483
        have h485 := h482 m483 em483
        refine wpc_sl (n := 10) (c' := 11) (pc' := 43) (ls' := [some (.ref 0), some (.int a1), some (.int a2), some (.int m483), some (.int (0 : Int32)), some (.int ((2 : Int32) * (gI s474 0 17))), some (.int (0 : Int32)), none, none]) (st' := []) (s' := s474) rfl ?_
        exact wpc_lle (ls := [some (.ref 0), some (.int a1), none, some (.int m483), some (.int (0 : Int32)), some (.int ((2 : Int32) * (gI s474 0 17))), some (.int (0 : Int32)), none, none]) ⟨rfl, rfl, rfl, rfl, rfl, rfl, trivial⟩ h485
      refine wpc_icmp (a := 27) (b := 22) rfl (by decide) rfl rfl (wpc_br (p := (16 : Int32) < a2) ⟨fun hc486 => ?_, fun hc486 => ?_⟩)
      · refine wpc_sl (n := 2) (c' := 11) (pc' := 28) (ls' := [some (.ref 0), some (.int a1), some (.int a2), none, none, none, none, none, none]) (st' := [.int (16 : Int32)]) (s' := s474) rfl ?_
        first | exact hm484 _ (by simp only [if_pos hc486]) | exact wpc_lle (by repeat (first | exact trivial | refine ⟨rfl, ?_⟩)) (hm484 _ (by simp only [if_pos hc486]))
      · refine wpc_sl (n := 1) (c' := 11) (pc' := 28) (ls' := [some (.ref 0), some (.int a1), some (.int a2), none, none, none, none, none, none]) (st' := [.int a2]) (s' := s474) rfl ?_
        first | exact hm484 _ (by simp only [if_neg hc486]) | exact wpc_lle (by repeat (first | exact trivial | refine ⟨rfl, ?_⟩)) (hm484 _ (by simp only [if_neg hc486]))
theorem c22_43 (x1 : Int32) (x3 : Int32) (x4 : Int32) (x5 : Int32) (x6 : Int32) (s : St) (Q : Int32 → St → Prop) (h : ((x6 < x5) → ((x4 < x3) → calI PP 8 11 [.ref 0, .int x1, .int x6] s (fun v494 s493 => inb 64 v494 ∧ (((gI s493 6 (ix v494)) = (0 : Int32)) → wpcI PP 22 cm22 11 123 [some (.ref 0), some (.int x1), none, some (.int x3), some (.int x4), some (.int x5), some (.int x6), none, none] [] s493 Q) ∧ (¬ ((gI s493 6 (ix v494)) = (0 : Int32)) → calI PP 9 11 [.ref 0, .int v494, .int x6] s493 (fun v501 s500 => ((v501 = (0 : Int32)) → wpcI PP 22 cm22 11 123 [some (.ref 0), some (.int x1), none, some (.int x3), some (.int x4), some (.int x5), some (.int x6), none, none] [] s500 Q) ∧ (¬ (v501 = (0 : Int32)) → inb 16 x4 ∧ inb 16 x4 ∧ calV PP 23 11 [.ref 0, .int v494] (sI (sI s500 10 (ix x4) x6) 11 (ix x4) v501) (fun s508 => wpcI PP 22 cm22 11 123 [some (.ref 0), some (.int x1), none, some (.int x3), some (.int (x4 + (1 : Int32))), some (.int x5), some (.int x6), none, none] [] s508 Q)))))) ∧ (¬ (x4 < x3) → wpcI PP 22 cm22 11 129 [some (.ref 0), none, none, none, some (.int x4), none, none, none, none] [] s Q)) ∧ (¬ (x6 < x5) → wpcI PP 22 cm22 11 129 [some (.ref 0), none, none, none, some (.int x4), none, none, none, none] [] s Q)) : wpcI PP 22 cm22 11 43 [some (.ref 0), some (.int x1), none, some (.int x3), some (.int x4), some (.int x5), some (.int x6), none, none] [] s Q := by
  refine wpc_sl (n := 2) (c' := 11) (pc' := 47) (ls' := [some (.ref 0), some (.int x1), none, some (.int x3), some (.int x4), some (.int x5), some (.int x6), none, none]) (st' := [.int x5, .int x6]) (s' := s) rfl ?_
  refine wpc_icmp (a := 129) (b := 50) rfl (by decide) rfl rfl (wpc_br (p := x6 < x5) ⟨fun hc487 => ?_, fun hc487 => ?_⟩)
  · have h488 := h.1 hc487
    refine wpc_sl (n := 2) (c' := 11) (pc' := 53) (ls' := [some (.ref 0), some (.int x1), none, some (.int x3), some (.int x4), some (.int x5), some (.int x6), none, none]) (st' := [.int x3, .int x4]) (s' := s) rfl ?_
    refine wpc_icmp (a := 129) (b := 56) rfl (by decide) rfl rfl (wpc_br (p := x4 < x3) ⟨fun hc490 => ?_, fun hc490 => ?_⟩)
    · have h491 := h488.1 hc490
      refine wpc_sl (n := 3) (c' := 11) (pc' := 60) (ls' := [some (.ref 0), some (.int x1), none, some (.int x3), some (.int x4), some (.int x5), some (.int x6), none, none]) (st' := [.int x6, .int x1, .ref 0]) (s' := s) rfl ?_
      refine wpc_callI (m' := 8) (me' := cm8) (as := [.int x1, .int x6]) (r := []) rfl rfl rfl rfl rfl ⟨by decide, (by first | decide | exact Nat.le_of_ble_eq_true rfl), (by first | decide | exact Nat.le_of_ble_eq_true rfl), rfl⟩ (calI.mono h491 fun v494 s493 h495 => ?_)
      refine wpc_sl (n := 4) (c' := 11) (pc' := 71) (ls' := [some (.ref 0), some (.int x1), none, some (.int x3), some (.int x4), some (.int x5), some (.int x6), some (.int v494), none]) (st' := [.int v494, .ref 6]) (s' := s493) rfl ?_
      refine wpc_ldaZ (a := 5) (N := 64) (v := (gI s493 6 (ix v494))) rfl rfl (by decide) h495.1 rfl ?_
      have h496 := h495.2
      refine wpc_if (a := 78) (b := 75) rfl (by decide) rfl rfl (wpc_br (p := (gI s493 6 (ix v494)) = (0 : Int32)) ⟨fun hc497 => ?_, fun hc497 => ?_⟩)
      · have h498 := h496.1 hc497
        refine wpc_sl (n := 1) (c' := 11) (pc' := 123) (ls' := [some (.ref 0), some (.int x1), none, some (.int x3), some (.int x4), some (.int x5), some (.int x6), some (.int v494), none]) (st' := []) (s' := s493) rfl ?_
        exact wpc_lle (ls := [some (.ref 0), some (.int x1), none, some (.int x3), some (.int x4), some (.int x5), some (.int x6), none, none]) ⟨rfl, rfl, rfl, rfl, rfl, rfl, trivial⟩ h498
      · have h499 := h496.2 hc497
        refine wpc_sl (n := 3) (c' := 11) (pc' := 83) (ls' := [some (.ref 0), some (.int x1), none, some (.int x3), some (.int x4), some (.int x5), some (.int x6), some (.int v494), none]) (st' := [.int x6, .int v494, .ref 0]) (s' := s493) rfl ?_
        refine wpc_callI (m' := 9) (me' := cm9) (as := [.int v494, .int x6]) (r := []) rfl rfl rfl rfl rfl ⟨by decide, (by first | decide | exact Nat.le_of_ble_eq_true rfl), (by first | decide | exact Nat.le_of_ble_eq_true rfl), rfl⟩ (calI.mono h499 fun v501 s500 h502 => ?_)
        refine wpc_sl (n := 2) (c' := 11) (pc' := 90) (ls' := [some (.ref 0), some (.int x1), none, some (.int x3), some (.int x4), some (.int x5), some (.int x6), some (.int v494), some (.int v501)]) (st' := [.int v501]) (s' := s500) rfl ?_
        refine wpc_if (a := 96) (b := 93) rfl (by decide) rfl rfl (wpc_br (p := v501 = (0 : Int32)) ⟨fun hc503 => ?_, fun hc503 => ?_⟩)
        · have h504 := h502.1 hc503
          refine wpc_sl (n := 1) (c' := 11) (pc' := 123) (ls' := [some (.ref 0), some (.int x1), none, some (.int x3), some (.int x4), some (.int x5), some (.int x6), some (.int v494), some (.int v501)]) (st' := []) (s' := s500) rfl ?_
          exact wpc_lle (ls := [some (.ref 0), some (.int x1), none, some (.int x3), some (.int x4), some (.int x5), some (.int x6), none, none]) ⟨rfl, rfl, rfl, rfl, rfl, rfl, trivial⟩ h504
        · have h505 := h502.2 hc503
          refine wpc_sl (n := 4) (c' := 11) (pc' := 104) (ls' := [some (.ref 0), some (.int x1), none, some (.int x3), some (.int x4), some (.int x5), some (.int x6), some (.int v494), some (.int v501)]) (st' := [.int x6, .int x4, .ref 10]) (s' := s500) rfl ?_
          refine wpc_staI (a := 9) (N := 16) (s' := (sI s500 10 (ix x4) x6)) rfl rfl (by decide) h505.1 rfl ?_
          have h506 := h505.2
          refine wpc_sl (n := 4) (c' := 11) (pc' := 113) (ls' := [some (.ref 0), some (.int x1), none, some (.int x3), some (.int x4), some (.int x5), some (.int x6), some (.int v494), some (.int v501)]) (st' := [.int v501, .int x4, .ref 11]) (s' := (sI s500 10 (ix x4) x6)) rfl ?_
          refine wpc_staI (a := 10) (N := 16) (s' := (sI (sI s500 10 (ix x4) x6) 11 (ix x4) v501)) rfl rfl (by decide) h506.1 rfl ?_
          have h507 := h506.2
          refine wpc_sl (n := 3) (c' := 11) (pc' := 120) (ls' := [some (.ref 0), some (.int x1), none, some (.int x3), some (.int (x4 + (1 : Int32))), some (.int x5), some (.int x6), some (.int v494), some (.int v501)]) (st' := [.int v494, .ref 0]) (s' := (sI (sI s500 10 (ix x4) x6) 11 (ix x4) v501)) rfl ?_
          refine wpc_callV (m' := 23) (me' := cm23) (as := [.int v494]) (r := []) rfl rfl rfl rfl rfl ⟨by decide, (by first | decide | exact Nat.le_of_ble_eq_true rfl), (by first | decide | exact Nat.le_of_ble_eq_true rfl), rfl⟩ (calV.mono h507 fun s508 h510 => ?_)
          exact wpc_lle (ls := [some (.ref 0), some (.int x1), none, some (.int x3), some (.int (x4 + (1 : Int32))), some (.int x5), some (.int x6), none, none]) ⟨rfl, rfl, rfl, rfl, rfl, rfl, trivial⟩ h510
    · have h492 := h488.2 hc490
      exact wpc_lle (ls := [some (.ref 0), none, none, none, some (.int x4), none, none, none, none]) ⟨rfl, rfl, trivial⟩ h492
  · have h489 := h.2 hc487
    exact wpc_lle (ls := [some (.ref 0), none, none, none, some (.int x4), none, none, none, none]) ⟨rfl, rfl, trivial⟩ h489
theorem c22_123 (x1 : Int32) (x3 : Int32) (x4 : Int32) (x5 : Int32) (x6 : Int32) (s : St) (Q : Int32 → St → Prop) (h : wpcI PP 22 cm22 11 43 [some (.ref 0), some (.int x1), none, some (.int x3), some (.int x4), some (.int x5), some (.int (x6 + (1 : Int32))), none, none] [] s Q) : wpcI PP 22 cm22 11 123 [some (.ref 0), some (.int x1), none, some (.int x3), some (.int x4), some (.int x5), some (.int x6), none, none] [] s Q := by
  refine wpc_sl (n := 2) (c' := 11) (pc' := 43) (ls' := [some (.ref 0), some (.int x1), none, some (.int x3), some (.int x4), some (.int x5), some (.int (x6 + (1 : Int32))), none, none]) (st' := []) (s' := s) rfl ?_
  exact h
theorem c22_129 (x4 : Int32) (s : St) (Q : Int32 → St → Prop) (h : Q x4 (sI s 0 31 x4)) : wpcI PP 22 cm22 11 129 [some (.ref 0), none, none, none, some (.int x4), none, none, none, none] [] s Q := by
  refine wpc_sl (n := 4) (c' := 11) (pc' := 137) (ls' := [some (.ref 0), none, none, none, some (.int x4), none, none, none, none]) (st' := [.int x4]) (s' := (sI s 0 31 x4)) rfl ?_
  exact wpc_ret rfl rfl (fun q => absurd q (by decide)) rfl ⟨x4, rfl, h⟩
theorem c26_in (a1 : Int32) (s : St) (Q : Int32 → St → Prop) (h : ((a1 < (0 : Int32)) → Q (-1 : Int32) s) ∧ (¬ (a1 < (0 : Int32)) → ((a1 < (gI s 0 17)) → inb 8 a1 ∧ (((gI s 1 (ix a1)) = (0 : Int32)) → inb 8 a1 ∧ (((gI s 2 (ix a1)) = (0 : Int32)) → Q (-1 : Int32) s) ∧ (¬ ((gI s 2 (ix a1)) = (0 : Int32)) → inb 8 a1 ∧ Q (gI s 5 (ix a1)) s)) ∧ (¬ ((gI s 1 (ix a1)) = (0 : Int32)) → inb 8 a1 ∧ Q (gI s 5 (ix a1)) s)) ∧ (¬ (a1 < (gI s 0 17)) → Q (-1 : Int32) s))) : calI PP 26 11 [.ref 0, .int a1] s Q := by
  refine cal_of (me := cm26) (ls := [some (.ref 0), some (.int a1)]) rfl (Nat.le_of_ble_eq_true rfl) rfl ?_
  refine wpc_sl (n := 1) (c' := 11) (pc' := 1) (ls' := [some (.ref 0), some (.int a1)]) (st' := [.int a1]) (s' := s) rfl ?_
  refine wpc_if (a := 12) (b := 4) rfl (by decide) rfl rfl (wpc_br (p := a1 < (0 : Int32)) ⟨fun hc643 => ?_, fun hc643 => ?_⟩)
  · have h644 := h.1 hc643
    refine wpc_sl (n := 1) (c' := 11) (pc' := 13) (ls' := [some (.ref 0), some (.int a1)]) (st' := [.int (-1 : Int32)]) (s' := s) rfl ?_
    exact wpc_ret rfl rfl (fun q => absurd q (by decide)) rfl ⟨(-1 : Int32), rfl, h644⟩
  · have h645 := h.2 hc643
    refine wpc_sl (n := 3) (c' := 11) (pc' := 9) (ls' := [some (.ref 0), some (.int a1)]) (st' := [.int (gI s 0 17), .int a1]) (s' := s) rfl ?_
    refine wpc_icmp (a := 14) (b := 12) rfl (by decide) rfl rfl (wpc_br (p := a1 < (gI s 0 17)) ⟨fun hc646 => ?_, fun hc646 => ?_⟩)
    · have h647 := h645.1 hc646
      refine wpc_sl (n := 3) (c' := 11) (pc' := 19) (ls' := [some (.ref 0), some (.int a1)]) (st' := [.int a1, .ref 1]) (s' := s) rfl ?_
      refine wpc_ldaZ (a := 0) (N := 8) (v := (gI s 1 (ix a1))) rfl rfl (by decide) h647.1 rfl ?_
      have h649 := h647.2
      refine wpc_if (a := 34) (b := 23) rfl (by decide) rfl rfl (wpc_br (p := (gI s 1 (ix a1)) = (0 : Int32)) ⟨fun hc650 => ?_, fun hc650 => ?_⟩)
      · have h651 := h649.1 hc650
        refine wpc_sl (n := 3) (c' := 11) (pc' := 28) (ls' := [some (.ref 0), some (.int a1)]) (st' := [.int a1, .ref 2]) (s' := s) rfl ?_
        refine wpc_ldaZ (a := 1) (N := 8) (v := (gI s 2 (ix a1))) rfl rfl (by decide) h651.1 rfl ?_
        have h653 := h651.2
        refine wpc_if (a := 34) (b := 32) rfl (by decide) rfl rfl (wpc_br (p := (gI s 2 (ix a1)) = (0 : Int32)) ⟨fun hc654 => ?_, fun hc654 => ?_⟩)
        · have h655 := h653.1 hc654
          refine wpc_sl (n := 1) (c' := 11) (pc' := 33) (ls' := [some (.ref 0), some (.int a1)]) (st' := [.int (-1 : Int32)]) (s' := s) rfl ?_
          exact wpc_ret rfl rfl (fun q => absurd q (by decide)) rfl ⟨(-1 : Int32), rfl, h655⟩
        · have h656 := h653.2 hc654
          refine wpc_sl (n := 3) (c' := 11) (pc' := 39) (ls' := [some (.ref 0), some (.int a1)]) (st' := [.int a1, .ref 5]) (s' := s) rfl ?_
          refine wpc_ldaI (a := 4) (N := 8) (v := (gI s 5 (ix a1))) rfl rfl (by decide) h656.1 rfl ?_
          have h657 := h656.2
          exact wpc_ret rfl rfl (fun q => absurd q (by decide)) rfl ⟨(gI s 5 (ix a1)), rfl, h657⟩
      · have h652 := h649.2 hc650
        refine wpc_sl (n := 3) (c' := 11) (pc' := 39) (ls' := [some (.ref 0), some (.int a1)]) (st' := [.int a1, .ref 5]) (s' := s) rfl ?_
        refine wpc_ldaI (a := 4) (N := 8) (v := (gI s 5 (ix a1))) rfl rfl (by decide) h652.1 rfl ?_
        have h658 := h652.2
        exact wpc_ret rfl rfl (fun q => absurd q (by decide)) rfl ⟨(gI s 5 (ix a1)), rfl, h658⟩
    · have h648 := h645.2 hc646
      refine wpc_sl (n := 1) (c' := 11) (pc' := 13) (ls' := [some (.ref 0), some (.int a1)]) (st' := [.int (-1 : Int32)]) (s' := s) rfl ?_
      exact wpc_ret rfl rfl (fun q => absurd q (by decide)) rfl ⟨(-1 : Int32), rfl, h648⟩
theorem c27_in (a1 : Int32) (s : St) (Q : Int32 → St → Prop) (h : calI PP 3 11 [.ref 0, .int a1] s (fun v660 s659 => ((v660 = (0 : Int32)) → Q (-1 : Int32) s659) ∧ (¬ (v660 = (0 : Int32)) → calI PP 4 11 [.ref 0, .int a1] s659 (fun v666 s665 => Q v666 s665)))) : calI PP 27 11 [.ref 0, .int a1] s Q := by
  refine cal_of (me := cm27) (ls := [some (.ref 0), some (.int a1)]) rfl (Nat.le_of_ble_eq_true rfl) rfl ?_
  refine wpc_sl (n := 2) (c' := 11) (pc' := 2) (ls' := [some (.ref 0), some (.int a1)]) (st' := [.int a1, .ref 0]) (s' := s) rfl ?_
  refine wpc_callI (m' := 3) (me' := cm3) (as := [.int a1]) (r := []) rfl rfl rfl rfl rfl ⟨by decide, (by first | decide | exact Nat.le_of_ble_eq_true rfl), (by first | decide | exact Nat.le_of_ble_eq_true rfl), rfl⟩ (calI.mono h fun v660 s659 h661 => ?_)
  refine wpc_if (a := 10) (b := 8) rfl (by decide) rfl rfl (wpc_br (p := v660 = (0 : Int32)) ⟨fun hc662 => ?_, fun hc662 => ?_⟩)
  · have h663 := h661.1 hc662
    refine wpc_sl (n := 1) (c' := 11) (pc' := 9) (ls' := [some (.ref 0), some (.int a1)]) (st' := [.int (-1 : Int32)]) (s' := s659) rfl ?_
    exact wpc_ret rfl rfl (fun q => absurd q (by decide)) rfl ⟨(-1 : Int32), rfl, h663⟩
  · have h664 := h661.2 hc662
    refine wpc_sl (n := 2) (c' := 11) (pc' := 12) (ls' := [some (.ref 0), some (.int a1)]) (st' := [.int a1, .ref 0]) (s' := s659) rfl ?_
    refine wpc_callI (m' := 4) (me' := cm4) (as := [.int a1]) (r := []) rfl rfl rfl rfl rfl ⟨by decide, (by first | decide | exact Nat.le_of_ble_eq_true rfl), (by first | decide | exact Nat.le_of_ble_eq_true rfl), rfl⟩ (calI.mono h664 fun v666 s665 h667 => ?_)
    exact wpc_ret rfl rfl (fun q => absurd q (by decide)) rfl ⟨v666, rfl, h667⟩
theorem l4W1_in (N : Nat) (sg : Nat → Int32) (a0 : Int64) (a1 : Int32) (a2 : Int32) (a3 : Int32) (a4 : Int32) (s : St) (Q : Int32 → Wd → Prop) (h : (((Int64.toInt32 ((XT.ushrL a0 (a4 * (8 : Int32))) &&& (255 : Int64))) = (0 : Int32)) → Q (-1 : Int32) (W1 s)) ∧ (¬ ((Int64.toInt32 ((XT.ushrL a0 (a4 * (8 : Int32))) &&& (255 : Int64))) = (0 : Int32)) → ((((Int64.toInt32 ((XT.ushrL a0 (a4 * (8 : Int32))) &&& (255 : Int64))) &&& (64 : Int32)) = (0 : Int32)) → ((((Int64.toInt32 ((XT.ushrL a0 (a4 * (8 : Int32))) &&& (255 : Int64))) &&& (16 : Int32)) = (0 : Int32)) → lalI PP QQ (some (N, sg)) 3 [.int a2, .int a3, .int (a4 &&& (3 : Int32))] (W1 s) (fun v678 w677 => ∃ s680, w677 = W1 s680 ∧ (Q (v678 &&& (((Int64.toInt32 ((XT.ushrL a0 (a4 * (8 : Int32))) &&& (255 : Int64))) &&& (3 : Int32)) ||| (12 : Int32))) (W1 s680)))) ∧ (¬ (((Int64.toInt32 ((XT.ushrL a0 (a4 * (8 : Int32))) &&& (255 : Int64))) &&& (16 : Int32)) = (0 : Int32)) → Q ((XT.ushr a1 (a4 * (4 : Int32))) &&& (15 : Int32)) (W1 s))) ∧ (¬ (((Int64.toInt32 ((XT.ushrL a0 (a4 * (8 : Int32))) &&& (255 : Int64))) &&& (64 : Int32)) = (0 : Int32)) → Q (0 : Int32) (W1 s)))) : lalI PP QQ (some (N, sg)) 4 [.long a0, .int a1, .int a2, .int a3, .int a4] (W1 s) Q := by
  refine lal_of (me := lm4) (ls := [some (.long a0), none, some (.int a1), some (.int a2), some (.int a3), some (.int a4), none]) rfl (Nat.le_of_ble_eq_true rfl) rfl ?_
  refine wpl_sl (n := 5) (pc' := 7) (ls' := [some (.long a0), none, some (.int a1), some (.int a2), some (.int a3), some (.int a4), none]) (st' := [.long (XT.ushrL a0 (a4 * (8 : Int32)))]) rfl ?_
  refine wpl_sl (n := 5) (pc' := 16) (ls' := [some (.long a0), none, some (.int a1), some (.int a2), some (.int a3), some (.int a4), some (.int (Int64.toInt32 ((XT.ushrL a0 (a4 * (8 : Int32))) &&& (255 : Int64))))]) (st' := [.int (Int64.toInt32 ((XT.ushrL a0 (a4 * (8 : Int32))) &&& (255 : Int64)))]) rfl ?_
  refine wpl_if (a := 21) (b := 19) rfl (by decide) rfl rfl (wpl_br (p := (Int64.toInt32 ((XT.ushrL a0 (a4 * (8 : Int32))) &&& (255 : Int64))) = (0 : Int32)) ⟨fun hc668 => ?_, fun hc668 => ?_⟩)
  · have h669 := h.1 hc668
    refine wpl_sl (n := 1) (pc' := 20) (ls' := [some (.long a0), none, some (.int a1), some (.int a2), some (.int a3), some (.int a4), some (.int (Int64.toInt32 ((XT.ushrL a0 (a4 * (8 : Int32))) &&& (255 : Int64))))]) (st' := [.int (-1 : Int32)]) rfl ?_
    exact wpl_ret rfl rfl rfl ⟨(-1 : Int32), rfl, h669⟩
  · have h670 := h.2 hc668
    refine wpl_sl (n := 3) (pc' := 26) (ls' := [some (.long a0), none, some (.int a1), some (.int a2), some (.int a3), some (.int a4), some (.int (Int64.toInt32 ((XT.ushrL a0 (a4 * (8 : Int32))) &&& (255 : Int64))))]) (st' := [.int ((Int64.toInt32 ((XT.ushrL a0 (a4 * (8 : Int32))) &&& (255 : Int64))) &&& (64 : Int32))]) rfl ?_
    refine wpl_if (a := 31) (b := 29) rfl (by decide) rfl rfl (wpl_br (p := ((Int64.toInt32 ((XT.ushrL a0 (a4 * (8 : Int32))) &&& (255 : Int64))) &&& (64 : Int32)) = (0 : Int32)) ⟨fun hc671 => ?_, fun hc671 => ?_⟩)
    · have h672 := h670.1 hc671
      refine wpl_sl (n := 3) (pc' := 36) (ls' := [some (.long a0), none, some (.int a1), some (.int a2), some (.int a3), some (.int a4), some (.int (Int64.toInt32 ((XT.ushrL a0 (a4 * (8 : Int32))) &&& (255 : Int64))))]) (st' := [.int ((Int64.toInt32 ((XT.ushrL a0 (a4 * (8 : Int32))) &&& (255 : Int64))) &&& (16 : Int32))]) rfl ?_
      refine wpl_if (a := 49) (b := 39) rfl (by decide) rfl rfl (wpl_br (p := ((Int64.toInt32 ((XT.ushrL a0 (a4 * (8 : Int32))) &&& (255 : Int64))) &&& (16 : Int32)) = (0 : Int32)) ⟨fun hc674 => ?_, fun hc674 => ?_⟩)
      · have h675 := h672.1 hc674
        refine wpl_sl (n := 5) (pc' := 56) (ls' := [some (.long a0), none, some (.int a1), some (.int a2), some (.int a3), some (.int a4), some (.int (Int64.toInt32 ((XT.ushrL a0 (a4 * (8 : Int32))) &&& (255 : Int64))))]) (st' := [.int (a4 &&& (3 : Int32)), .int a3, .int a2]) rfl ?_
        refine wpl_stat (m' := 3) (me' := lm3) (as := [.int a2, .int a3, .int (a4 &&& (3 : Int32))]) (r := []) rfl rfl rfl rfl rfl ⟨(by first | decide | exact Nat.le_of_ble_eq_true rfl), (by first | decide | exact Nat.le_of_ble_eq_true rfl), (by first | decide | exact Nat.le_of_ble_eq_true rfl), (by first | decide | exact Nat.le_of_ble_eq_true rfl), rfl⟩ (lal_I (lalI.mono h675 fun v678 w677 hh => ?_))
        obtain ⟨s680, rfl, h679⟩ := hh
        refine wpl_sl (n := 6) (pc' := 67) (ls' := [some (.long a0), none, some (.int a1), some (.int a2), some (.int a3), some (.int a4), some (.int (Int64.toInt32 ((XT.ushrL a0 (a4 * (8 : Int32))) &&& (255 : Int64))))]) (st' := [.int (v678 &&& (((Int64.toInt32 ((XT.ushrL a0 (a4 * (8 : Int32))) &&& (255 : Int64))) &&& (3 : Int32)) ||| (12 : Int32)))]) rfl ?_
        exact wpl_ret rfl rfl rfl ⟨(v678 &&& (((Int64.toInt32 ((XT.ushrL a0 (a4 * (8 : Int32))) &&& (255 : Int64))) &&& (3 : Int32)) ||| (12 : Int32))), rfl, h679⟩
      · have h676 := h672.2 hc674
        refine wpl_sl (n := 7) (pc' := 48) (ls' := [some (.long a0), none, some (.int a1), some (.int a2), some (.int a3), some (.int a4), some (.int (Int64.toInt32 ((XT.ushrL a0 (a4 * (8 : Int32))) &&& (255 : Int64))))]) (st' := [.int ((XT.ushr a1 (a4 * (4 : Int32))) &&& (15 : Int32))]) rfl ?_
        exact wpl_ret rfl rfl rfl ⟨((XT.ushr a1 (a4 * (4 : Int32))) &&& (15 : Int32)), rfl, h676⟩
    · have h673 := h670.2 hc671
      refine wpl_sl (n := 1) (pc' := 30) (ls' := [some (.long a0), none, some (.int a1), some (.int a2), some (.int a3), some (.int a4), some (.int (Int64.toInt32 ((XT.ushrL a0 (a4 * (8 : Int32))) &&& (255 : Int64))))]) (st' := [.int (0 : Int32)]) rfl ?_
      exact wpl_ret rfl rfl rfl ⟨(0 : Int32), rfl, h673⟩
theorem c14_in (a1 : Int32) (a2 : Int32) (s : St) (Q : Int32 → St → Prop) (h : calI PP 6 11 [.ref 0, .int a1] s (fun v693 s692 => ((v693 = (0 : Int32)) → Q (-1 : Int32) s692) ∧ (¬ (v693 = (0 : Int32)) → calI PP 3 11 [.ref 0, .int a2] s692 (fun v699 s698 => ((v699 = (0 : Int32)) → Q (-1 : Int32) s698) ∧ (¬ (v699 = (0 : Int32)) → calI PP 8 11 [.ref 0, .int a1, .int a2] s698 (fun v705 s704 => inb 64 v705 ∧ (((gI s704 6 (ix v705)) = (0 : Int32)) → Q (-1 : Int32) s704) ∧ (¬ ((gI s704 6 (ix v705)) = (0 : Int32)) → Q v705 s704))))))) : calI PP 14 11 [.ref 0, .int a1, .int a2] s Q := by
  refine cal_of (me := cm14) (ls := [some (.ref 0), some (.int a1), some (.int a2), none]) rfl (Nat.le_of_ble_eq_true rfl) rfl ?_
  refine wpc_sl (n := 2) (c' := 11) (pc' := 2) (ls' := [some (.ref 0), some (.int a1), some (.int a2), none]) (st' := [.int a1, .ref 0]) (s' := s) rfl ?_
  refine wpc_callI (m' := 6) (me' := cm6) (as := [.int a1]) (r := []) rfl rfl rfl rfl rfl ⟨by decide, (by first | decide | exact Nat.le_of_ble_eq_true rfl), (by first | decide | exact Nat.le_of_ble_eq_true rfl), rfl⟩ (calI.mono h fun v693 s692 h694 => ?_)
  refine wpc_if (a := 16) (b := 8) rfl (by decide) rfl rfl (wpc_br (p := v693 = (0 : Int32)) ⟨fun hc695 => ?_, fun hc695 => ?_⟩)
  · have h696 := h694.1 hc695
    refine wpc_sl (n := 1) (c' := 11) (pc' := 17) (ls' := [some (.ref 0), some (.int a1), some (.int a2), none]) (st' := [.int (-1 : Int32)]) (s' := s692) rfl ?_
    exact wpc_ret rfl rfl (fun q => absurd q (by decide)) rfl ⟨(-1 : Int32), rfl, h696⟩
  · have h697 := h694.2 hc695
    refine wpc_sl (n := 2) (c' := 11) (pc' := 10) (ls' := [some (.ref 0), some (.int a1), some (.int a2), none]) (st' := [.int a2, .ref 0]) (s' := s692) rfl ?_
    refine wpc_callI (m' := 3) (me' := cm3) (as := [.int a2]) (r := []) rfl rfl rfl rfl rfl ⟨by decide, (by first | decide | exact Nat.le_of_ble_eq_true rfl), (by first | decide | exact Nat.le_of_ble_eq_true rfl), rfl⟩ (calI.mono h697 fun v699 s698 h700 => ?_)
    refine wpc_if (a := 18) (b := 16) rfl (by decide) rfl rfl (wpc_br (p := v699 = (0 : Int32)) ⟨fun hc701 => ?_, fun hc701 => ?_⟩)
    · have h702 := h700.1 hc701
      refine wpc_sl (n := 1) (c' := 11) (pc' := 17) (ls' := [some (.ref 0), some (.int a1), some (.int a2), none]) (st' := [.int (-1 : Int32)]) (s' := s698) rfl ?_
      exact wpc_ret rfl rfl (fun q => absurd q (by decide)) rfl ⟨(-1 : Int32), rfl, h702⟩
    · have h703 := h700.2 hc701
      refine wpc_sl (n := 3) (c' := 11) (pc' := 21) (ls' := [some (.ref 0), some (.int a1), some (.int a2), none]) (st' := [.int a2, .int a1, .ref 0]) (s' := s698) rfl ?_
      refine wpc_callI (m' := 8) (me' := cm8) (as := [.int a1, .int a2]) (r := []) rfl rfl rfl rfl rfl ⟨by decide, (by first | decide | exact Nat.le_of_ble_eq_true rfl), (by first | decide | exact Nat.le_of_ble_eq_true rfl), rfl⟩ (calI.mono h703 fun v705 s704 h706 => ?_)
      refine wpc_sl (n := 4) (c' := 11) (pc' := 30) (ls' := [some (.ref 0), some (.int a1), some (.int a2), some (.int v705)]) (st' := [.int v705, .ref 6]) (s' := s704) rfl ?_
      refine wpc_ldaZ (a := 5) (N := 64) (v := (gI s704 6 (ix v705))) rfl rfl (by decide) h706.1 rfl ?_
      have h707 := h706.2
      refine wpc_if (a := 36) (b := 34) rfl (by decide) rfl rfl (wpc_br (p := (gI s704 6 (ix v705)) = (0 : Int32)) ⟨fun hc708 => ?_, fun hc708 => ?_⟩)
      · have h709 := h707.1 hc708
        refine wpc_sl (n := 1) (c' := 11) (pc' := 35) (ls' := [some (.ref 0), some (.int a1), some (.int a2), some (.int v705)]) (st' := [.int (-1 : Int32)]) (s' := s704) rfl ?_
        exact wpc_ret rfl rfl (fun q => absurd q (by decide)) rfl ⟨(-1 : Int32), rfl, h709⟩
      · have h710 := h707.2 hc708
        refine wpc_sl (n := 1) (c' := 11) (pc' := 37) (ls' := [some (.ref 0), some (.int a1), some (.int a2), some (.int v705)]) (st' := [.int v705]) (s' := s704) rfl ?_
        exact wpc_ret rfl rfl (fun q => absurd q (by decide)) rfl ⟨v705, rfl, h710⟩
theorem c28_in (a1 : Int32) (a2 : Int32) (s : St) (Q : Int32 → St → Prop) (h : calI PP 14 11 [.ref 0, .int a1, .int a2] s (fun v682 s681 => ((v682 < (0 : Int32)) → Q (-1 : Int32) s681) ∧ (¬ (v682 < (0 : Int32)) → inb 64 v682 ∧ inb 64 v682 ∧ (((gI s681 8 (ix v682)) = (0 : Int32)) → Q ((gI s681 7 (ix v682)) ||| (64 : Int32)) s681) ∧ (¬ ((gI s681 8 (ix v682)) = (0 : Int32)) → Q (gI s681 7 (ix v682)) s681)))) : calI PP 28 11 [.ref 0, .int a1, .int a2] s Q := by
  refine cal_of (me := cm28) (ls := [some (.ref 0), some (.int a1), some (.int a2), none, none]) rfl (Nat.le_of_ble_eq_true rfl) rfl ?_
  refine wpc_sl (n := 3) (c' := 11) (pc' := 3) (ls' := [some (.ref 0), some (.int a1), some (.int a2), none, none]) (st' := [.int a2, .int a1, .ref 0]) (s' := s) rfl ?_
  refine wpc_callI (m' := 14) (me' := cm14) (as := [.int a1, .int a2]) (r := []) rfl rfl rfl rfl rfl ⟨by decide, (by first | decide | exact Nat.le_of_ble_eq_true rfl), (by first | decide | exact Nat.le_of_ble_eq_true rfl), rfl⟩ (calI.mono h fun v682 s681 h683 => ?_)
  refine wpc_sl (n := 2) (c' := 11) (pc' := 8) (ls' := [some (.ref 0), some (.int a1), some (.int a2), some (.int v682), none]) (st' := [.int v682]) (s' := s681) rfl ?_
  refine wpc_if (a := 13) (b := 11) rfl (by decide) rfl rfl (wpc_br (p := v682 < (0 : Int32)) ⟨fun hc684 => ?_, fun hc684 => ?_⟩)
  · have h685 := h683.1 hc684
    refine wpc_sl (n := 1) (c' := 11) (pc' := 12) (ls' := [some (.ref 0), some (.int a1), some (.int a2), some (.int v682), none]) (st' := [.int (-1 : Int32)]) (s' := s681) rfl ?_
    exact wpc_ret rfl rfl (fun q => absurd q (by decide)) rfl ⟨(-1 : Int32), rfl, h685⟩
  · have h686 := h683.2 hc684
    refine wpc_sl (n := 3) (c' := 11) (pc' := 18) (ls' := [some (.ref 0), some (.int a1), some (.int a2), some (.int v682), none]) (st' := [.int v682, .ref 7]) (s' := s681) rfl ?_
    refine wpc_ldaI (a := 6) (N := 64) (v := (gI s681 7 (ix v682))) rfl rfl (by decide) h686.1 rfl ?_
    have h687 := h686.2
    refine wpc_sl (n := 4) (c' := 11) (pc' := 26) (ls' := [some (.ref 0), some (.int a1), some (.int a2), some (.int v682), some (.int (gI s681 7 (ix v682)))]) (st' := [.int v682, .ref 8]) (s' := s681) rfl ?_
    refine wpc_ldaZ (a := 7) (N := 64) (v := (gI s681 8 (ix v682))) rfl rfl (by decide) h687.1 rfl ?_
    have h688 := h687.2
    refine wpc_if (a := 37) (b := 30) rfl (by decide) rfl rfl (wpc_br (p := (gI s681 8 (ix v682)) = (0 : Int32)) ⟨fun hc689 => ?_, fun hc689 => ?_⟩)
    · have h690 := h688.1 hc689
      refine wpc_sl (n := 5) (c' := 11) (pc' := 39) (ls' := [some (.ref 0), some (.int a1), some (.int a2), some (.int v682), some (.int ((gI s681 7 (ix v682)) ||| (64 : Int32)))]) (st' := [.int ((gI s681 7 (ix v682)) ||| (64 : Int32))]) (s' := s681) rfl ?_
      exact wpc_ret rfl rfl (fun q => absurd q (by decide)) rfl ⟨((gI s681 7 (ix v682)) ||| (64 : Int32)), rfl, h690⟩
    · have h691 := h688.2 hc689
      refine wpc_sl (n := 1) (c' := 11) (pc' := 39) (ls' := [some (.ref 0), some (.int a1), some (.int a2), some (.int v682), some (.int (gI s681 7 (ix v682)))]) (st' := [.int (gI s681 7 (ix v682))]) (s' := s681) rfl ?_
      exact wpc_ret rfl rfl (fun q => absurd q (by decide)) rfl ⟨(gI s681 7 (ix v682)), rfl, h691⟩
theorem c29_in (a1 : Int32) (a2 : Int32) (s : St) (Q : Int32 → St → Prop) (h : calI PP 14 11 [.ref 0, .int a1, .int a2] s (fun v712 s711 => ((v712 < (0 : Int32)) → Q (-1 : Int32) s711) ∧ (¬ (v712 < (0 : Int32)) → calI PP 9 11 [.ref 0, .int v712, .int a2] s711 (fun v718 s717 => Q v718 s717)))) : calI PP 29 11 [.ref 0, .int a1, .int a2] s Q := by
  refine cal_of (me := cm29) (ls := [some (.ref 0), some (.int a1), some (.int a2), none]) rfl (Nat.le_of_ble_eq_true rfl) rfl ?_
  refine wpc_sl (n := 3) (c' := 11) (pc' := 3) (ls' := [some (.ref 0), some (.int a1), some (.int a2), none]) (st' := [.int a2, .int a1, .ref 0]) (s' := s) rfl ?_
  refine wpc_callI (m' := 14) (me' := cm14) (as := [.int a1, .int a2]) (r := []) rfl rfl rfl rfl rfl ⟨by decide, (by first | decide | exact Nat.le_of_ble_eq_true rfl), (by first | decide | exact Nat.le_of_ble_eq_true rfl), rfl⟩ (calI.mono h fun v712 s711 h713 => ?_)
  refine wpc_sl (n := 2) (c' := 11) (pc' := 8) (ls' := [some (.ref 0), some (.int a1), some (.int a2), some (.int v712)]) (st' := [.int v712]) (s' := s711) rfl ?_
  refine wpc_if (a := 13) (b := 11) rfl (by decide) rfl rfl (wpc_br (p := v712 < (0 : Int32)) ⟨fun hc714 => ?_, fun hc714 => ?_⟩)
  · have h715 := h713.1 hc714
    refine wpc_sl (n := 1) (c' := 11) (pc' := 12) (ls' := [some (.ref 0), some (.int a1), some (.int a2), some (.int v712)]) (st' := [.int (-1 : Int32)]) (s' := s711) rfl ?_
    exact wpc_ret rfl rfl (fun q => absurd q (by decide)) rfl ⟨(-1 : Int32), rfl, h715⟩
  · have h716 := h713.2 hc714
    refine wpc_sl (n := 3) (c' := 11) (pc' := 16) (ls' := [some (.ref 0), some (.int a1), some (.int a2), some (.int v712)]) (st' := [.int a2, .int v712, .ref 0]) (s' := s711) rfl ?_
    refine wpc_callI (m' := 9) (me' := cm9) (as := [.int v712, .int a2]) (r := []) rfl rfl rfl rfl rfl ⟨by decide, (by first | decide | exact Nat.le_of_ble_eq_true rfl), (by first | decide | exact Nat.le_of_ble_eq_true rfl), rfl⟩ (calI.mono h716 fun v718 s717 h719 => ?_)
    exact wpc_ret rfl rfl (fun q => absurd q (by decide)) rfl ⟨v718, rfl, h719⟩
theorem c30_in (a1 : Int32) (s : St) (Q : Int32 → St → Prop) (h : calI PP 6 11 [.ref 0, .int a1] s (fun v721 s720 => ((v721 = (0 : Int32)) → Q (-1 : Int32) s720) ∧ (¬ (v721 = (0 : Int32)) → wpcI PP 30 cm30 11 22 [some (.ref 0), some (.int a1), some (.int (0 : Int32)), some (.int ((2 : Int32) * (gI s720 0 17))), some (.int (0 : Int32)), none] [] s720 Q))) : calI PP 30 11 [.ref 0, .int a1] s Q := by
  refine cal_of (me := cm30) (ls := [some (.ref 0), some (.int a1), none, none, none, none]) rfl (Nat.le_of_ble_eq_true rfl) rfl ?_
  refine wpc_sl (n := 2) (c' := 11) (pc' := 2) (ls' := [some (.ref 0), some (.int a1), none, none, none, none]) (st' := [.int a1, .ref 0]) (s' := s) rfl ?_
  refine wpc_callI (m' := 6) (me' := cm6) (as := [.int a1]) (r := []) rfl rfl rfl rfl rfl ⟨by decide, (by first | decide | exact Nat.le_of_ble_eq_true rfl), (by first | decide | exact Nat.le_of_ble_eq_true rfl), rfl⟩ (calI.mono h fun v721 s720 h722 => ?_)
  refine wpc_if (a := 10) (b := 8) rfl (by decide) rfl rfl (wpc_br (p := v721 = (0 : Int32)) ⟨fun hc723 => ?_, fun hc723 => ?_⟩)
  · have h724 := h722.1 hc723
    refine wpc_sl (n := 1) (c' := 11) (pc' := 9) (ls' := [some (.ref 0), some (.int a1), none, none, none, none]) (st' := [.int (-1 : Int32)]) (s' := s720) rfl ?_
    exact wpc_ret rfl rfl (fun q => absurd q (by decide)) rfl ⟨(-1 : Int32), rfl, h724⟩
  · have h725 := h722.2 hc723
    refine wpc_sl (n := 9) (c' := 11) (pc' := 22) (ls' := [some (.ref 0), some (.int a1), some (.int (0 : Int32)), some (.int ((2 : Int32) * (gI s720 0 17))), some (.int (0 : Int32)), none]) (st' := []) (s' := s720) rfl ?_
    exact h725
theorem c30_22 (x1 : Int32) (x2 : Int32) (x3 : Int32) (x4 : Int32) (s : St) (Q : Int32 → St → Prop) (h : ((x4 < x3) → calI PP 8 11 [.ref 0, .int x1, .int x4] s (fun v730 s729 => inb 64 v730 ∧ (((gI s729 6 (ix v730)) = (0 : Int32)) → wpcI PP 30 cm30 11 61 [some (.ref 0), some (.int x1), some (.int x2), some (.int x3), some (.int x4), none] [] s729 Q) ∧ (¬ ((gI s729 6 (ix v730)) = (0 : Int32)) → calI PP 9 11 [.ref 0, .int v730, .int x4] s729 (fun v737 s736 => ∀ m739, m739 = (if v737 = (0 : Int32) then x2 else (x2 + (1 : Int32))) → (wpcI PP 30 cm30 11 61 [some (.ref 0), some (.int x1), some (.int m739), some (.int x3), some (.int x4), none] [] s736 Q))))) ∧ (¬ (x4 < x3) → Q x2 s)) : wpcI PP 30 cm30 11 22 [some (.ref 0), some (.int x1), some (.int x2), some (.int x3), some (.int x4), none] [] s Q := by
  refine wpc_sl (n := 2) (c' := 11) (pc' := 25) (ls' := [some (.ref 0), some (.int x1), some (.int x2), some (.int x3), some (.int x4), none]) (st' := [.int x3, .int x4]) (s' := s) rfl ?_
  refine wpc_icmp (a := 67) (b := 28) rfl (by decide) rfl rfl (wpc_br (p := x4 < x3) ⟨fun hc726 => ?_, fun hc726 => ?_⟩)
  · have h727 := h.1 hc726
    refine wpc_sl (n := 3) (c' := 11) (pc' := 32) (ls' := [some (.ref 0), some (.int x1), some (.int x2), some (.int x3), some (.int x4), none]) (st' := [.int x4, .int x1, .ref 0]) (s' := s) rfl ?_
    refine wpc_callI (m' := 8) (me' := cm8) (as := [.int x1, .int x4]) (r := []) rfl rfl rfl rfl rfl ⟨by decide, (by first | decide | exact Nat.le_of_ble_eq_true rfl), (by first | decide | exact Nat.le_of_ble_eq_true rfl), rfl⟩ (calI.mono h727 fun v730 s729 h731 => ?_)
    refine wpc_sl (n := 4) (c' := 11) (pc' := 43) (ls' := [some (.ref 0), some (.int x1), some (.int x2), some (.int x3), some (.int x4), some (.int v730)]) (st' := [.int v730, .ref 6]) (s' := s729) rfl ?_
    refine wpc_ldaZ (a := 5) (N := 64) (v := (gI s729 6 (ix v730))) rfl rfl (by decide) h731.1 rfl ?_
    have h732 := h731.2
    refine wpc_if (a := 61) (b := 47) rfl (by decide) rfl rfl (wpc_br (p := (gI s729 6 (ix v730)) = (0 : Int32)) ⟨fun hc733 => ?_, fun hc733 => ?_⟩)
    · have h734 := h732.1 hc733
      exact wpc_lle (ls := [some (.ref 0), some (.int x1), some (.int x2), some (.int x3), some (.int x4), none]) ⟨rfl, rfl, rfl, rfl, rfl, trivial⟩ h734
    · have h735 := h732.2 hc733
      refine wpc_sl (n := 3) (c' := 11) (pc' := 52) (ls' := [some (.ref 0), some (.int x1), some (.int x2), some (.int x3), some (.int x4), some (.int v730)]) (st' := [.int x4, .int v730, .ref 0]) (s' := s729) rfl ?_
      refine wpc_callI (m' := 9) (me' := cm9) (as := [.int v730, .int x4]) (r := []) rfl rfl rfl rfl rfl ⟨by decide, (by first | decide | exact Nat.le_of_ble_eq_true rfl), (by first | decide | exact Nat.le_of_ble_eq_true rfl), rfl⟩ (calI.mono h735 fun v737 s736 h738 => ?_)
      have hm740 : ∀ m739, m739 = (if v737 = (0 : Int32) then x2 else (x2 + (1 : Int32))) → wpcI PP 30 cm30 11 61 [some (.ref 0), some (.int x1), some (.int m739), some (.int x3), some (.int x4), some (.int v730)] [] s736 Q := by
        intro m739 em739
        have h741 := h738 m739 em739
        exact wpc_lle (ls := [some (.ref 0), some (.int x1), some (.int m739), some (.int x3), some (.int x4), none]) ⟨rfl, rfl, rfl, rfl, rfl, trivial⟩ h741
      refine wpc_if (a := 61) (b := 58) rfl (by decide) rfl rfl (wpc_br (p := v737 = (0 : Int32)) ⟨fun hc742 => ?_, fun hc742 => ?_⟩)
      · first | exact hm740 _ (by simp only [if_pos hc742]) | exact wpc_lle (by repeat (first | exact trivial | refine ⟨rfl, ?_⟩)) (hm740 _ (by simp only [if_pos hc742]))
      · refine wpc_sl (n := 1) (c' := 11) (pc' := 61) (ls' := [some (.ref 0), some (.int x1), some (.int (x2 + (1 : Int32))), some (.int x3), some (.int x4), some (.int v730)]) (st' := []) (s' := s736) rfl ?_
        first | exact hm740 _ (by simp only [if_neg hc742]) | exact wpc_lle (by repeat (first | exact trivial | refine ⟨rfl, ?_⟩)) (hm740 _ (by simp only [if_neg hc742]))
  · have h728 := h.2 hc726
    refine wpc_sl (n := 1) (c' := 11) (pc' := 68) (ls' := [some (.ref 0), some (.int x1), some (.int x2), some (.int x3), some (.int x4), none]) (st' := [.int x2]) (s' := s) rfl ?_
    exact wpc_ret rfl rfl (fun q => absurd q (by decide)) rfl ⟨x2, rfl, h728⟩
theorem c30_61 (x1 : Int32) (x2 : Int32) (x3 : Int32) (x4 : Int32) (s : St) (Q : Int32 → St → Prop) (h : wpcI PP 30 cm30 11 22 [some (.ref 0), some (.int x1), some (.int x2), some (.int x3), some (.int (x4 + (1 : Int32))), none] [] s Q) : wpcI PP 30 cm30 11 61 [some (.ref 0), some (.int x1), some (.int x2), some (.int x3), some (.int x4), none] [] s Q := by
  refine wpc_sl (n := 2) (c' := 11) (pc' := 22) (ls' := [some (.ref 0), some (.int x1), some (.int x2), some (.int x3), some (.int (x4 + (1 : Int32))), none]) (st' := []) (s' := s) rfl ?_
  exact h
theorem c24_in (a1 : Int32) (s : St) (Q : Int32 → St → Prop) (h : ((a1 < (0 : Int32)) → Q (-1 : Int32) s) ∧ (¬ (a1 < (0 : Int32)) → ((a1 < (gI s 0 31)) → inb 16 a1 ∧ Q (gI s 10 (ix a1)) s) ∧ (¬ (a1 < (gI s 0 31)) → Q (-1 : Int32) s))) : calI PP 24 11 [.ref 0, .int a1] s Q := by
  refine cal_of (me := cm24) (ls := [some (.ref 0), some (.int a1)]) rfl (Nat.le_of_ble_eq_true rfl) rfl ?_
  refine wpc_sl (n := 1) (c' := 11) (pc' := 1) (ls' := [some (.ref 0), some (.int a1)]) (st' := [.int a1]) (s' := s) rfl ?_
  refine wpc_if (a := 12) (b := 4) rfl (by decide) rfl rfl (wpc_br (p := a1 < (0 : Int32)) ⟨fun hc743 => ?_, fun hc743 => ?_⟩)
  · have h744 := h.1 hc743
    refine wpc_sl (n := 1) (c' := 11) (pc' := 13) (ls' := [some (.ref 0), some (.int a1)]) (st' := [.int (-1 : Int32)]) (s' := s) rfl ?_
    exact wpc_ret rfl rfl (fun q => absurd q (by decide)) rfl ⟨(-1 : Int32), rfl, h744⟩
  · have h745 := h.2 hc743
    refine wpc_sl (n := 3) (c' := 11) (pc' := 9) (ls' := [some (.ref 0), some (.int a1)]) (st' := [.int (gI s 0 31), .int a1]) (s' := s) rfl ?_
    refine wpc_icmp (a := 14) (b := 12) rfl (by decide) rfl rfl (wpc_br (p := a1 < (gI s 0 31)) ⟨fun hc746 => ?_, fun hc746 => ?_⟩)
    · have h747 := h745.1 hc746
      refine wpc_sl (n := 3) (c' := 11) (pc' := 19) (ls' := [some (.ref 0), some (.int a1)]) (st' := [.int a1, .ref 10]) (s' := s) rfl ?_
      refine wpc_ldaI (a := 9) (N := 16) (v := (gI s 10 (ix a1))) rfl rfl (by decide) h747.1 rfl ?_
      have h749 := h747.2
      exact wpc_ret rfl rfl (fun q => absurd q (by decide)) rfl ⟨(gI s 10 (ix a1)), rfl, h749⟩
    · have h748 := h745.2 hc746
      refine wpc_sl (n := 1) (c' := 11) (pc' := 13) (ls' := [some (.ref 0), some (.int a1)]) (st' := [.int (-1 : Int32)]) (s' := s) rfl ?_
      exact wpc_ret rfl rfl (fun q => absurd q (by decide)) rfl ⟨(-1 : Int32), rfl, h748⟩
theorem c25_in (a1 : Int32) (s : St) (Q : Int32 → St → Prop) (h : ((a1 < (0 : Int32)) → Q (0 : Int32) s) ∧ (¬ (a1 < (0 : Int32)) → ((a1 < (gI s 0 31)) → inb 16 a1 ∧ Q (gI s 11 (ix a1)) s) ∧ (¬ (a1 < (gI s 0 31)) → Q (0 : Int32) s))) : calI PP 25 11 [.ref 0, .int a1] s Q := by
  refine cal_of (me := cm25) (ls := [some (.ref 0), some (.int a1)]) rfl (Nat.le_of_ble_eq_true rfl) rfl ?_
  refine wpc_sl (n := 1) (c' := 11) (pc' := 1) (ls' := [some (.ref 0), some (.int a1)]) (st' := [.int a1]) (s' := s) rfl ?_
  refine wpc_if (a := 12) (b := 4) rfl (by decide) rfl rfl (wpc_br (p := a1 < (0 : Int32)) ⟨fun hc750 => ?_, fun hc750 => ?_⟩)
  · have h751 := h.1 hc750
    refine wpc_sl (n := 1) (c' := 11) (pc' := 13) (ls' := [some (.ref 0), some (.int a1)]) (st' := [.int (0 : Int32)]) (s' := s) rfl ?_
    exact wpc_ret rfl rfl (fun q => absurd q (by decide)) rfl ⟨(0 : Int32), rfl, h751⟩
  · have h752 := h.2 hc750
    refine wpc_sl (n := 3) (c' := 11) (pc' := 9) (ls' := [some (.ref 0), some (.int a1)]) (st' := [.int (gI s 0 31), .int a1]) (s' := s) rfl ?_
    refine wpc_icmp (a := 14) (b := 12) rfl (by decide) rfl rfl (wpc_br (p := a1 < (gI s 0 31)) ⟨fun hc753 => ?_, fun hc753 => ?_⟩)
    · have h754 := h752.1 hc753
      refine wpc_sl (n := 3) (c' := 11) (pc' := 19) (ls' := [some (.ref 0), some (.int a1)]) (st' := [.int a1, .ref 11]) (s' := s) rfl ?_
      refine wpc_ldaI (a := 10) (N := 16) (v := (gI s 11 (ix a1))) rfl rfl (by decide) h754.1 rfl ?_
      have h756 := h754.2
      exact wpc_ret rfl rfl (fun q => absurd q (by decide)) rfl ⟨(gI s 11 (ix a1)), rfl, h756⟩
    · have h755 := h752.2 hc753
      refine wpc_sl (n := 1) (c' := 11) (pc' := 13) (ls' := [some (.ref 0), some (.int a1)]) (st' := [.int (0 : Int32)]) (s' := s) rfl ?_
      exact wpc_ret rfl rfl (fun q => absurd q (by decide)) rfl ⟨(0 : Int32), rfl, h755⟩
theorem l6r1W1_in (N : Nat) (sg : Nat → Int32) (a1 : Int32) (a2 : Int32) (a3 : Int64) (a4 : Int32) (a5 : Int32) (a6 : Int32) (a7 : Int32) (s : St) (Q : Int32 → Wd → Prop) (h : wplI PP QQ (some (N, sg)) 6 lm6 3 [some (.ref 1), some (.int a1), some (.int a2), some (.long a3), none, some (.int a4), some (.int a5), some (.int a6), some (.int a7), some (.int (0 : Int32)), none, none, none, none] [] (W1 s) Q) : lalI PP QQ (some (N, sg)) 6 [.ref 1, .int a1, .int a2, .long a3, .int a4, .int a5, .int a6, .int a7] (W1 s) Q := by
  refine lal_of (me := lm6) (ls := [some (.ref 1), some (.int a1), some (.int a2), some (.long a3), none, some (.int a4), some (.int a5), some (.int a6), some (.int a7), none, none, none, none, none]) rfl (Nat.le_of_ble_eq_true rfl) rfl ?_
  refine wpl_sl (n := 2) (pc' := 3) (ls' := [some (.ref 1), some (.int a1), some (.int a2), some (.long a3), none, some (.int a4), some (.int a5), some (.int a6), some (.int a7), some (.int (0 : Int32)), none, none, none, none]) (st' := []) rfl ?_
  exact h
theorem l6r1W1_3 (N : Nat) (sg : Nat → Int32) (x1 : Int32) (x2 : Int32) (x3 : Int64) (x5 : Int32) (x6 : Int32) (x7 : Int32) (x8 : Int32) (x9 : Int32) (s : St) (Q : Int32 → Wd → Prop) (h : ((x9 < (3 : Int32)) → ∀ m547, m547 = (if x9 < (2 : Int32) then (if ((x1 >>> (((2 : Int32) * x9) &&& 31)) &&& (3 : Int32)) = (0 : Int32) then (-1 : Int32) else ((x2 >>> (((4 : Int32) * x9) &&& 31)) &&& (15 : Int32))) else (-1 : Int32)) → (wplI PP QQ (some (N, sg)) 6 lm6 39 [some (.ref 1), some (.int x1), some (.int x2), some (.long x3), none, some (.int x5), some (.int x6), some (.int x7), some (.int x8), some (.int x9), none, none, none, none] [.int m547] (W1 s) Q)) ∧ (¬ (x9 < (3 : Int32)) → wplI PP QQ (some (N, sg)) 6 lm6 63 [some (.ref 1), some (.int x1), some (.int x2), some (.long x3), none, some (.int x5), some (.int x6), some (.int x7), some (.int x8), some (.int (-1 : Int32)), none, none, none, none] [] (W1 s) Q)) : wplI PP QQ (some (N, sg)) 6 lm6 3 [some (.ref 1), some (.int x1), some (.int x2), some (.long x3), none, some (.int x5), some (.int x6), some (.int x7), some (.int x8), some (.int x9), none, none, none, none] [] (W1 s) Q := by
  refine wpl_sl (n := 2) (pc' := 6) (ls' := [some (.ref 1), some (.int x1), some (.int x2), some (.long x3), none, some (.int x5), some (.int x6), some (.int x7), some (.int x8), some (.int x9), none, none, none, none]) (st' := [.int (3 : Int32), .int x9]) rfl ?_
  refine wpl_icmp (a := 60) (b := 9) rfl (by decide) rfl rfl (wpl_br (p := x9 < (3 : Int32)) ⟨fun hc544 => ?_, fun hc544 => ?_⟩)
  · have h545 := h.1 hc544
    refine wpl_sl (n := 2) (pc' := 12) (ls' := [some (.ref 1), some (.int x1), some (.int x2), some (.long x3), none, some (.int x5), some (.int x6), some (.int x7), some (.int x8), some (.int x9), none, none, none, none]) (st' := [.int (2 : Int32), .int x9]) rfl ?_
    have hm548 : ∀ m547, m547 = (if x9 < (2 : Int32) then (if ((x1 >>> (((2 : Int32) * x9) &&& 31)) &&& (3 : Int32)) = (0 : Int32) then (-1 : Int32) else ((x2 >>> (((4 : Int32) * x9) &&& 31)) &&& (15 : Int32))) else (-1 : Int32)) → wplI PP QQ (some (N, sg)) 6 lm6 39 [some (.ref 1), some (.int x1), some (.int x2), some (.long x3), none, some (.int x5), some (.int x6), some (.int x7), some (.int x8), some (.int x9), none, none, none, none] [.int m547] (W1 s) Q := by
      intro m547 em547
      have h549 := h545 m547 em547
      exact h549
    refine wpl_icmp (a := 38) (b := 15) rfl (by decide) rfl rfl (wpl_br (p := x9 < (2 : Int32)) ⟨fun hc550 => ?_, fun hc550 => ?_⟩)
    · refine wpl_sl (n := 7) (pc' := 23) (ls' := [some (.ref 1), some (.int x1), some (.int x2), some (.long x3), none, some (.int x5), some (.int x6), some (.int x7), some (.int x8), some (.int x9), none, none, none, none]) (st' := [.int ((x1 >>> (((2 : Int32) * x9) &&& 31)) &&& (3 : Int32))]) rfl ?_
      refine wpl_if (a := 38) (b := 26) rfl (by decide) rfl rfl (wpl_br (p := ((x1 >>> (((2 : Int32) * x9) &&& 31)) &&& (3 : Int32)) = (0 : Int32)) ⟨fun hc551 => ?_, fun hc551 => ?_⟩)
      · refine wpl_sl (n := 1) (pc' := 39) (ls' := [some (.ref 1), some (.int x1), some (.int x2), some (.long x3), none, some (.int x5), some (.int x6), some (.int x7), some (.int x8), some (.int x9), none, none, none, none]) (st' := [.int (-1 : Int32)]) rfl ?_
        first | exact hm548 _ (by simp only [if_pos hc550, if_pos hc551]) | exact wpl_lle (by repeat (first | exact trivial | refine ⟨rfl, ?_⟩)) (hm548 _ (by simp only [if_pos hc550, if_pos hc551]))
      · refine wpl_sl (n := 8) (pc' := 39) (ls' := [some (.ref 1), some (.int x1), some (.int x2), some (.long x3), none, some (.int x5), some (.int x6), some (.int x7), some (.int x8), some (.int x9), none, none, none, none]) (st' := [.int ((x2 >>> (((4 : Int32) * x9) &&& 31)) &&& (15 : Int32))]) rfl ?_
        first | exact hm548 _ (by simp only [if_pos hc550, if_neg hc551]) | exact wpl_lle (by repeat (first | exact trivial | refine ⟨rfl, ?_⟩)) (hm548 _ (by simp only [if_pos hc550, if_neg hc551]))
    · refine wpl_sl (n := 1) (pc' := 39) (ls' := [some (.ref 1), some (.int x1), some (.int x2), some (.long x3), none, some (.int x5), some (.int x6), some (.int x7), some (.int x8), some (.int x9), none, none, none, none]) (st' := [.int (-1 : Int32)]) rfl ?_
      first | exact hm548 _ (by simp only [if_neg hc550]) | exact wpl_lle (by repeat (first | exact trivial | refine ⟨rfl, ?_⟩)) (hm548 _ (by simp only [if_neg hc550]))
  · have h546 := h.2 hc544
    refine wpl_sl (n := 2) (pc' := 63) (ls' := [some (.ref 1), some (.int x1), some (.int x2), some (.long x3), none, some (.int x5), some (.int x6), some (.int x7), some (.int x8), some (.int (-1 : Int32)), none, none, none, none]) (st' := []) rfl ?_
    exact h546
theorem l6r1W1_39 (N : Nat) (sg : Nat → Int32) (x1 : Int32) (x2 : Int32) (x3 : Int64) (x5 : Int32) (x6 : Int32) (x7 : Int32) (x8 : Int32) (x9 : Int32) (y0 : Int32) (s : St) (Q : Int32 → Wd → Prop) (h : calI PP 26 11 [.ref 0, .int x9] s (fun v553 s552 => ((v553 = y0) → wplI PP QQ (some (N, sg)) 6 lm6 3 [some (.ref 1), some (.int x1), some (.int x2), some (.long x3), none, some (.int x5), some (.int x6), some (.int x7), some (.int x8), some (.int (x9 + (1 : Int32))), none, none, none, none] [] (W1 s552) Q) ∧ (¬ (v553 = y0) → Q (0 : Int32) (W1 s552)))) : wplI PP QQ (some (N, sg)) 6 lm6 39 [some (.ref 1), some (.int x1), some (.int x2), some (.long x3), none, some (.int x5), some (.int x6), some (.int x7), some (.int x8), some (.int x9), none, none, none, none] [.int y0] (W1 s) Q := by
  refine wpl_sl (n := 3) (pc' := 44) (ls' := [some (.ref 1), some (.int x1), some (.int x2), some (.long x3), none, some (.int x5), some (.int x6), some (.int x7), some (.int x8), some (.int x9), some (.int y0), none, none, none]) (st' := [.int x9, .ref 1]) rfl ?_
  refine wpl_v1 (m' := 26) (me' := cm26) (as := [.int x9]) (r := []) rfl rfl rfl rfl rfl ⟨by decide, (by first | decide | exact Nat.le_of_ble_eq_true rfl), (by first | decide | exact Nat.le_of_ble_eq_true rfl), rfl⟩ (cal_I (calI.mono h fun v553 s552 h554 => ?_))
  refine wpl_sl (n := 1) (pc' := 49) (ls' := [some (.ref 1), some (.int x1), some (.int x2), some (.long x3), none, some (.int x5), some (.int x6), some (.int x7), some (.int x8), some (.int x9), some (.int y0), none, none, none]) (st' := [.int y0, .int v553]) rfl ?_
  refine wpl_icmp (a := 54) (b := 52) rfl (by decide) rfl rfl (wpl_br (p := v553 = y0) ⟨fun hc555 => ?_, fun hc555 => ?_⟩)
  · have h556 := h554.1 hc555
    refine wpl_sl (n := 2) (pc' := 3) (ls' := [some (.ref 1), some (.int x1), some (.int x2), some (.long x3), none, some (.int x5), some (.int x6), some (.int x7), some (.int x8), some (.int (x9 + (1 : Int32))), some (.int y0), none, none, none]) (st' := []) rfl ?_
    exact wpl_lle (ls := [some (.ref 1), some (.int x1), some (.int x2), some (.long x3), none, some (.int x5), some (.int x6), some (.int x7), some (.int x8), some (.int (x9 + (1 : Int32))), none, none, none, none]) ⟨rfl, rfl, rfl, rfl, rfl, rfl, rfl, rfl, rfl, trivial⟩ h556
  · have h557 := h554.2 hc555
    refine wpl_sl (n := 1) (pc' := 53) (ls' := [some (.ref 1), some (.int x1), some (.int x2), some (.long x3), none, some (.int x5), some (.int x6), some (.int x7), some (.int x8), some (.int x9), some (.int y0), none, none, none]) (st' := [.int (0 : Int32)]) rfl ?_
    exact wpl_ret rfl rfl rfl ⟨(0 : Int32), rfl, h557⟩
theorem l6r1W1_63 (N : Nat) (sg : Nat → Int32) (x1 : Int32) (x2 : Int32) (x3 : Int64) (x5 : Int32) (x6 : Int32) (x7 : Int32) (x8 : Int32) (x9 : Int32) (s : St) (Q : Int32 → Wd → Prop) (h : ((x9 < (5 : Int32)) → calI PP 27 11 [.ref 0, .int x9] s (fun v562 s561 => lalI PP QQ (some (N, sg)) 3 [.int x1, .int x2, .int x9] (W1 s561) (fun v565 w564 => ∃ s567, w564 = W1 s567 ∧ (((v562 = v565) → wplI PP QQ (some (N, sg)) 6 lm6 63 [some (.ref 1), some (.int x1), some (.int x2), some (.long x3), none, some (.int x5), some (.int x6), some (.int x7), some (.int x8), some (.int (x9 + (1 : Int32))), none, none, none, none] [] (W1 s567) Q) ∧ (¬ (v562 = v565) → Q (0 : Int32) (W1 s567)))))) ∧ (¬ (x9 < (5 : Int32)) → wplI PP QQ (some (N, sg)) 6 lm6 102 [some (.ref 1), some (.int x1), some (.int x2), some (.long x3), none, some (.int x5), some (.int x6), some (.int x7), some (.int x8), some (.int (0 : Int32)), some (.int (0 : Int32)), some (.int (0 : Int32)), none, none] [] (W1 s) Q)) : wplI PP QQ (some (N, sg)) 6 lm6 63 [some (.ref 1), some (.int x1), some (.int x2), some (.long x3), none, some (.int x5), some (.int x6), some (.int x7), some (.int x8), some (.int x9), none, none, none, none] [] (W1 s) Q := by
  refine wpl_sl (n := 2) (pc' := 66) (ls' := [some (.ref 1), some (.int x1), some (.int x2), some (.long x3), none, some (.int x5), some (.int x6), some (.int x7), some (.int x8), some (.int x9), none, none, none, none]) (st' := [.int (5 : Int32), .int x9]) rfl ?_
  refine wpl_icmp (a := 93) (b := 69) rfl (by decide) rfl rfl (wpl_br (p := x9 < (5 : Int32)) ⟨fun hc558 => ?_, fun hc558 => ?_⟩)
  · have h559 := h.1 hc558
    refine wpl_sl (n := 2) (pc' := 72) (ls' := [some (.ref 1), some (.int x1), some (.int x2), some (.long x3), none, some (.int x5), some (.int x6), some (.int x7), some (.int x8), some (.int x9), none, none, none, none]) (st' := [.int x9, .ref 1]) rfl ?_
    refine wpl_v1 (m' := 27) (me' := cm27) (as := [.int x9]) (r := []) rfl rfl rfl rfl rfl ⟨by decide, (by first | decide | exact Nat.le_of_ble_eq_true rfl), (by first | decide | exact Nat.le_of_ble_eq_true rfl), rfl⟩ (cal_I (calI.mono h559 fun v562 s561 h563 => ?_))
    refine wpl_sl (n := 3) (pc' := 79) (ls' := [some (.ref 1), some (.int x1), some (.int x2), some (.long x3), none, some (.int x5), some (.int x6), some (.int x7), some (.int x8), some (.int x9), none, none, none, none]) (st' := [.int x9, .int x2, .int x1, .int v562]) rfl ?_
    refine wpl_stat (m' := 3) (me' := lm3) (as := [.int x1, .int x2, .int x9]) (r := [.int v562]) rfl rfl rfl rfl rfl ⟨(by first | decide | exact Nat.le_of_ble_eq_true rfl), (by first | decide | exact Nat.le_of_ble_eq_true rfl), (by first | decide | exact Nat.le_of_ble_eq_true rfl), (by first | decide | exact Nat.le_of_ble_eq_true rfl), rfl⟩ (lal_I (lalI.mono h563 fun v565 w564 hh => ?_))
    obtain ⟨s567, rfl, h566⟩ := hh
    refine wpl_icmp (a := 87) (b := 85) rfl (by decide) rfl rfl (wpl_br (p := v562 = v565) ⟨fun hc568 => ?_, fun hc568 => ?_⟩)
    · have h569 := h566.1 hc568
      refine wpl_sl (n := 2) (pc' := 63) (ls' := [some (.ref 1), some (.int x1), some (.int x2), some (.long x3), none, some (.int x5), some (.int x6), some (.int x7), some (.int x8), some (.int (x9 + (1 : Int32))), none, none, none, none]) (st' := []) rfl ?_
      exact h569
    · have h570 := h566.2 hc568
      refine wpl_sl (n := 1) (pc' := 86) (ls' := [some (.ref 1), some (.int x1), some (.int x2), some (.long x3), none, some (.int x5), some (.int x6), some (.int x7), some (.int x8), some (.int x9), none, none, none, none]) (st' := [.int (0 : Int32)]) rfl ?_
      exact wpl_ret rfl rfl rfl ⟨(0 : Int32), rfl, h570⟩
  · have h560 := h.2 hc558
    refine wpl_sl (n := 6) (pc' := 102) (ls' := [some (.ref 1), some (.int x1), some (.int x2), some (.long x3), none, some (.int x5), some (.int x6), some (.int x7), some (.int x8), some (.int (0 : Int32)), some (.int (0 : Int32)), some (.int (0 : Int32)), none, none]) (st' := []) rfl ?_
    exact h560
theorem l6r1W1_102 (N : Nat) (sg : Nat → Int32) (x1 : Int32) (x2 : Int32) (x3 : Int64) (x5 : Int32) (x6 : Int32) (x7 : Int32) (x8 : Int32) (x9 : Int32) (x10 : Int32) (x11 : Int32) (s : St) (Q : Int32 → Wd → Prop) (h : ((x11 < (8 : Int32)) → lalI PP QQ (some (N, sg)) 4 [.long x3, .int x5, .int x1, .int x2, .int x11] (W1 s) (fun v575 w574 => ∃ s577, w574 = W1 s577 ∧ (calI PP 28 11 [.ref 0, .int (x11 >>> ((2 : Int32) &&& 31)), .int (x11 &&& (3 : Int32))] s577 (fun v579 s578 => ∀ m581, m581 = (if (Int64.toInt32 ((XT.ushrL x3 (x11 * (8 : Int32))) &&& (255 : Int64))) = (0 : Int32) then (-1 : Int32) else ((Int64.toInt32 ((XT.ushrL x3 (x11 * (8 : Int32))) &&& (255 : Int64))) &&& (127 : Int32))) → (((v579 = m581) → calI PP 29 11 [.ref 0, .int (x11 >>> ((2 : Int32) &&& 31)), .int (x11 &&& (3 : Int32))] s578 (fun v588 s587 => ((v588 = v575) → ∀ m593, m593 = (if (0 : Int32) < v575 then (if x11 < (4 : Int32) then (x9 + (1 : Int32)) else x9) else x9) → ∀ m594, m594 = (if (0 : Int32) < v575 then (if x11 < (4 : Int32) then x10 else (x10 + (1 : Int32))) else x10) → (wplI PP QQ (some (N, sg)) 6 lm6 102 [some (.ref 1), some (.int x1), some (.int x2), some (.long x3), none, some (.int x5), some (.int x6), some (.int x7), some (.int x8), some (.int m593), some (.int m594), some (.int (x11 + (1 : Int32))), none, none] [] (W1 s587) Q)) ∧ (¬ (v588 = v575) → Q (0 : Int32) (W1 s587)))) ∧ (¬ (v579 = m581) → Q (0 : Int32) (W1 s578))))))) ∧ (¬ (x11 < (8 : Int32)) → calI PP 30 11 [.ref 0, .int (0 : Int32)] s (fun v601 s600 => ((v601 = x9) → calI PP 30 11 [.ref 0, .int (1 : Int32)] s600 (fun v607 s606 => ((v607 = x10) → calI PP 30 11 [.ref 0, .int (2 : Int32)] s606 (fun v613 s612 => ((v613 = (-1 : Int32)) → wplI PP QQ (some (N, sg)) 6 lm6 243 [some (.ref 1), none, none, none, none, none, some (.int x6), some (.int x7), some (.int x8), none, none, some (.int (-1 : Int32)), none, none] [] (W1 s612) Q) ∧ (¬ (v613 = (-1 : Int32)) → Q (0 : Int32) (W1 s612)))) ∧ (¬ (v607 = x10) → Q (0 : Int32) (W1 s606)))) ∧ (¬ (v601 = x9) → Q (0 : Int32) (W1 s600))))) : wplI PP QQ (some (N, sg)) 6 lm6 102 [some (.ref 1), some (.int x1), some (.int x2), some (.long x3), none, some (.int x5), some (.int x6), some (.int x7), some (.int x8), some (.int x9), some (.int x10), some (.int x11), none, none] [] (W1 s) Q := by
  refine wpl_sl (n := 2) (pc' := 106) (ls' := [some (.ref 1), some (.int x1), some (.int x2), some (.long x3), none, some (.int x5), some (.int x6), some (.int x7), some (.int x8), some (.int x9), some (.int x10), some (.int x11), none, none]) (st' := [.int (8 : Int32), .int x11]) rfl ?_
  refine wpl_icmp (a := 209) (b := 109) rfl (by decide) rfl rfl (wpl_br (p := x11 < (8 : Int32)) ⟨fun hc571 => ?_, fun hc571 => ?_⟩)
  · have h572 := h.1 hc571
    refine wpl_sl (n := 5) (pc' := 116) (ls' := [some (.ref 1), some (.int x1), some (.int x2), some (.long x3), none, some (.int x5), some (.int x6), some (.int x7), some (.int x8), some (.int x9), some (.int x10), some (.int x11), none, none]) (st' := [.long (XT.ushrL x3 (x11 * (8 : Int32)))]) rfl ?_
    refine wpl_sl (n := 5) (pc' := 124) (ls' := [some (.ref 1), some (.int x1), some (.int x2), some (.long x3), none, some (.int x5), some (.int x6), some (.int x7), some (.int x8), some (.int x9), some (.int x10), some (.int x11), some (.int (Int64.toInt32 ((XT.ushrL x3 (x11 * (8 : Int32))) &&& (255 : Int64)))), none]) (st' := [.long x3]) rfl ?_
    refine wpl_sl (n := 4) (pc' := 130) (ls' := [some (.ref 1), some (.int x1), some (.int x2), some (.long x3), none, some (.int x5), some (.int x6), some (.int x7), some (.int x8), some (.int x9), some (.int x10), some (.int x11), some (.int (Int64.toInt32 ((XT.ushrL x3 (x11 * (8 : Int32))) &&& (255 : Int64)))), none]) (st' := [.int x11, .int x2, .int x1, .int x5, .long x3]) rfl ?_
    refine wpl_stat (m' := 4) (me' := lm4) (as := [.long x3, .int x5, .int x1, .int x2, .int x11]) (r := []) rfl rfl rfl rfl rfl ⟨(by first | decide | exact Nat.le_of_ble_eq_true rfl), (by first | decide | exact Nat.le_of_ble_eq_true rfl), (by first | decide | exact Nat.le_of_ble_eq_true rfl), (by first | decide | exact Nat.le_of_ble_eq_true rfl), rfl⟩ (lal_I (lalI.mono h572 fun v575 w574 hh => ?_))
    obtain ⟨s577, rfl, h576⟩ := hh
    refine wpl_sl (n := 8) (pc' := 144) (ls' := [some (.ref 1), some (.int x1), some (.int x2), some (.long x3), none, some (.int x5), some (.int x6), some (.int x7), some (.int x8), some (.int x9), some (.int x10), some (.int x11), some (.int (Int64.toInt32 ((XT.ushrL x3 (x11 * (8 : Int32))) &&& (255 : Int64)))), some (.int v575)]) (st' := [.int (x11 &&& (3 : Int32)), .int (x11 >>> ((2 : Int32) &&& 31)), .ref 1]) rfl ?_
    refine wpl_v1 (m' := 28) (me' := cm28) (as := [.int (x11 >>> ((2 : Int32) &&& 31)), .int (x11 &&& (3 : Int32))]) (r := []) rfl rfl rfl rfl rfl ⟨by decide, (by first | decide | exact Nat.le_of_ble_eq_true rfl), (by first | decide | exact Nat.le_of_ble_eq_true rfl), rfl⟩ (cal_I (calI.mono h576 fun v579 s578 h580 => ?_))
    refine wpl_sl (n := 1) (pc' := 149) (ls' := [some (.ref 1), some (.int x1), some (.int x2), some (.long x3), none, some (.int x5), some (.int x6), some (.int x7), some (.int x8), some (.int x9), some (.int x10), some (.int x11), some (.int (Int64.toInt32 ((XT.ushrL x3 (x11 * (8 : Int32))) &&& (255 : Int64)))), some (.int v575)]) (st' := [.int (Int64.toInt32 ((XT.ushrL x3 (x11 * (8 : Int32))) &&& (255 : Int64))), .int v579]) rfl ?_
    have hm582 : ∀ m581, m581 = (if (Int64.toInt32 ((XT.ushrL x3 (x11 * (8 : Int32))) &&& (255 : Int64))) = (0 : Int32) then (-1 : Int32) else ((Int64.toInt32 ((XT.ushrL x3 (x11 * (8 : Int32))) &&& (255 : Int64))) &&& (127 : Int32))) → wplI PP QQ (some (N, sg)) 6 lm6 161 [some (.ref 1), some (.int x1), some (.int x2), some (.long x3), none, some (.int x5), some (.int x6), some (.int x7), some (.int x8), some (.int x9), some (.int x10), some (.int x11), some (.int (Int64.toInt32 ((XT.ushrL x3 (x11 * (8 : Int32))) &&& (255 : Int64)))), some (.int v575)] [.int m581, .int v579] (W1 s578) Q := by
      intro m581 em581
      have h583 := h580 m581 em581
      refine wpl_icmp (a := 181) (b := 164) rfl (by decide) rfl rfl (wpl_br (p := v579 = m581) ⟨fun hc584 => ?_, fun hc584 => ?_⟩)
      · have h585 := h583.1 hc584
        refine wpl_sl (n := 7) (pc' := 173) (ls' := [some (.ref 1), some (.int x1), some (.int x2), some (.long x3), none, some (.int x5), some (.int x6), some (.int x7), some (.int x8), some (.int x9), some (.int x10), some (.int x11), some (.int (Int64.toInt32 ((XT.ushrL x3 (x11 * (8 : Int32))) &&& (255 : Int64)))), some (.int v575)]) (st' := [.int (x11 &&& (3 : Int32)), .int (x11 >>> ((2 : Int32) &&& 31)), .ref 1]) rfl ?_
        refine wpl_v1 (m' := 29) (me' := cm29) (as := [.int (x11 >>> ((2 : Int32) &&& 31)), .int (x11 &&& (3 : Int32))]) (r := []) rfl rfl rfl rfl rfl ⟨by decide, (by first | decide | exact Nat.le_of_ble_eq_true rfl), (by first | decide | exact Nat.le_of_ble_eq_true rfl), rfl⟩ (cal_I (calI.mono h585 fun v588 s587 h589 => ?_))
        refine wpl_sl (n := 1) (pc' := 178) (ls' := [some (.ref 1), some (.int x1), some (.int x2), some (.long x3), none, some (.int x5), some (.int x6), some (.int x7), some (.int x8), some (.int x9), some (.int x10), some (.int x11), some (.int (Int64.toInt32 ((XT.ushrL x3 (x11 * (8 : Int32))) &&& (255 : Int64)))), some (.int v575)]) (st' := [.int v575, .int v588]) rfl ?_
        refine wpl_icmp (a := 183) (b := 181) rfl (by decide) rfl rfl (wpl_br (p := v588 = v575) ⟨fun hc590 => ?_, fun hc590 => ?_⟩)
        · have h591 := h589.1 hc590
          refine wpl_sl (n := 1) (pc' := 185) (ls' := [some (.ref 1), some (.int x1), some (.int x2), some (.long x3), none, some (.int x5), some (.int x6), some (.int x7), some (.int x8), some (.int x9), some (.int x10), some (.int x11), some (.int (Int64.toInt32 ((XT.ushrL x3 (x11 * (8 : Int32))) &&& (255 : Int64)))), some (.int v575)]) (st' := [.int v575]) rfl ?_
          have hm595 : ∀ m593, m593 = (if (0 : Int32) < v575 then (if x11 < (4 : Int32) then (x9 + (1 : Int32)) else x9) else x9) → ∀ m594, m594 = (if (0 : Int32) < v575 then (if x11 < (4 : Int32) then x10 else (x10 + (1 : Int32))) else x10) → wplI PP QQ (some (N, sg)) 6 lm6 203 [some (.ref 1), some (.int x1), some (.int x2), some (.long x3), none, some (.int x5), some (.int x6), some (.int x7), some (.int x8), some (.int m593), some (.int m594), some (.int x11), some (.int (Int64.toInt32 ((XT.ushrL x3 (x11 * (8 : Int32))) &&& (255 : Int64)))), some (.int v575)] [] (W1 s587) Q := by
            intro m593 em593 m594 em594
            have h596 := h591 m593 em593 m594 em594
            refine wpl_sl (n := 2) (pc' := 102) (ls' := [some (.ref 1), some (.int x1), some (.int x2), some (.long x3), none, some (.int x5), some (.int x6), some (.int x7), some (.int x8), some (.int m593), some (.int m594), some (.int (x11 + (1 : Int32))), some (.int (Int64.toInt32 ((XT.ushrL x3 (x11 * (8 : Int32))) &&& (255 : Int64)))), some (.int v575)]) (st' := []) rfl ?_
            exact wpl_lle (ls := [some (.ref 1), some (.int x1), some (.int x2), some (.long x3), none, some (.int x5), some (.int x6), some (.int x7), some (.int x8), some (.int m593), some (.int m594), some (.int (x11 + (1 : Int32))), none, none]) ⟨rfl, rfl, rfl, rfl, rfl, rfl, rfl, rfl, rfl, rfl, rfl, trivial⟩ h596
          refine wpl_if (a := 203) (b := 188) rfl (by decide) rfl rfl (wpl_br (p := (0 : Int32) < v575) ⟨fun hc597 => ?_, fun hc597 => ?_⟩)
          · refine wpl_sl (n := 2) (pc' := 191) (ls' := [some (.ref 1), some (.int x1), some (.int x2), some (.long x3), none, some (.int x5), some (.int x6), some (.int x7), some (.int x8), some (.int x9), some (.int x10), some (.int x11), some (.int (Int64.toInt32 ((XT.ushrL x3 (x11 * (8 : Int32))) &&& (255 : Int64)))), some (.int v575)]) (st' := [.int (4 : Int32), .int x11]) rfl ?_
            refine wpl_icmp (a := 200) (b := 194) rfl (by decide) rfl rfl (wpl_br (p := x11 < (4 : Int32)) ⟨fun hc598 => ?_, fun hc598 => ?_⟩)
            · refine wpl_sl (n := 2) (pc' := 203) (ls' := [some (.ref 1), some (.int x1), some (.int x2), some (.long x3), none, some (.int x5), some (.int x6), some (.int x7), some (.int x8), some (.int (x9 + (1 : Int32))), some (.int x10), some (.int x11), some (.int (Int64.toInt32 ((XT.ushrL x3 (x11 * (8 : Int32))) &&& (255 : Int64)))), some (.int v575)]) (st' := []) rfl ?_
              first | exact hm595 _ (by simp only [if_pos hc597, if_pos hc598]) _ (by simp only [if_pos hc597, if_pos hc598]) | exact wpl_lle (by repeat (first | exact trivial | refine ⟨rfl, ?_⟩)) (hm595 _ (by simp only [if_pos hc597, if_pos hc598]) _ (by simp only [if_pos hc597, if_pos hc598]))
            · refine wpl_sl (n := 1) (pc' := 203) (ls' := [some (.ref 1), some (.int x1), some (.int x2), some (.long x3), none, some (.int x5), some (.int x6), some (.int x7), some (.int x8), some (.int x9), some (.int (x10 + (1 : Int32))), some (.int x11), some (.int (Int64.toInt32 ((XT.ushrL x3 (x11 * (8 : Int32))) &&& (255 : Int64)))), some (.int v575)]) (st' := []) rfl ?_
              first | exact hm595 _ (by simp only [if_pos hc597, if_neg hc598]) _ (by simp only [if_pos hc597, if_neg hc598]) | exact wpl_lle (by repeat (first | exact trivial | refine ⟨rfl, ?_⟩)) (hm595 _ (by simp only [if_pos hc597, if_neg hc598]) _ (by simp only [if_pos hc597, if_neg hc598]))
          · first | exact hm595 _ (by simp only [if_neg hc597]) _ (by simp only [if_neg hc597]) | exact wpl_lle (by repeat (first | exact trivial | refine ⟨rfl, ?_⟩)) (hm595 _ (by simp only [if_neg hc597]) _ (by simp only [if_neg hc597]))
        · have h592 := h589.2 hc590
          refine wpl_sl (n := 1) (pc' := 182) (ls' := [some (.ref 1), some (.int x1), some (.int x2), some (.long x3), none, some (.int x5), some (.int x6), some (.int x7), some (.int x8), some (.int x9), some (.int x10), some (.int x11), some (.int (Int64.toInt32 ((XT.ushrL x3 (x11 * (8 : Int32))) &&& (255 : Int64)))), some (.int v575)]) (st' := [.int (0 : Int32)]) rfl ?_
          exact wpl_ret rfl rfl rfl ⟨(0 : Int32), rfl, h592⟩
      · have h586 := h583.2 hc584
        refine wpl_sl (n := 1) (pc' := 182) (ls' := [some (.ref 1), some (.int x1), some (.int x2), some (.long x3), none, some (.int x5), some (.int x6), some (.int x7), some (.int x8), some (.int x9), some (.int x10), some (.int x11), some (.int (Int64.toInt32 ((XT.ushrL x3 (x11 * (8 : Int32))) &&& (255 : Int64)))), some (.int v575)]) (st' := [.int (0 : Int32)]) rfl ?_
        exact wpl_ret rfl rfl rfl ⟨(0 : Int32), rfl, h586⟩
    refine wpl_if (a := 156) (b := 152) rfl (by decide) rfl rfl (wpl_br (p := (Int64.toInt32 ((XT.ushrL x3 (x11 * (8 : Int32))) &&& (255 : Int64))) = (0 : Int32)) ⟨fun hc599 => ?_, fun hc599 => ?_⟩)
    · refine wpl_sl (n := 2) (pc' := 161) (ls' := [some (.ref 1), some (.int x1), some (.int x2), some (.long x3), none, some (.int x5), some (.int x6), some (.int x7), some (.int x8), some (.int x9), some (.int x10), some (.int x11), some (.int (Int64.toInt32 ((XT.ushrL x3 (x11 * (8 : Int32))) &&& (255 : Int64)))), some (.int v575)]) (st' := [.int (-1 : Int32), .int v579]) rfl ?_
      first | exact hm582 _ (by simp only [if_pos hc599]) | exact wpl_lle (by repeat (first | exact trivial | refine ⟨rfl, ?_⟩)) (hm582 _ (by simp only [if_pos hc599]))
    · refine wpl_sl (n := 3) (pc' := 161) (ls' := [some (.ref 1), some (.int x1), some (.int x2), some (.long x3), none, some (.int x5), some (.int x6), some (.int x7), some (.int x8), some (.int x9), some (.int x10), some (.int x11), some (.int (Int64.toInt32 ((XT.ushrL x3 (x11 * (8 : Int32))) &&& (255 : Int64)))), some (.int v575)]) (st' := [.int ((Int64.toInt32 ((XT.ushrL x3 (x11 * (8 : Int32))) &&& (255 : Int64))) &&& (127 : Int32)), .int v579]) rfl ?_
      first | exact hm582 _ (by simp only [if_neg hc599]) | exact wpl_lle (by repeat (first | exact trivial | refine ⟨rfl, ?_⟩)) (hm582 _ (by simp only [if_neg hc599]))
  · have h573 := h.2 hc571
    refine wpl_sl (n := 2) (pc' := 211) (ls' := [some (.ref 1), some (.int x1), some (.int x2), some (.long x3), none, some (.int x5), some (.int x6), some (.int x7), some (.int x8), some (.int x9), some (.int x10), some (.int x11), none, none]) (st' := [.int (0 : Int32), .ref 1]) rfl ?_
    refine wpl_v1 (m' := 30) (me' := cm30) (as := [.int (0 : Int32)]) (r := []) rfl rfl rfl rfl rfl ⟨by decide, (by first | decide | exact Nat.le_of_ble_eq_true rfl), (by first | decide | exact Nat.le_of_ble_eq_true rfl), rfl⟩ (cal_I (calI.mono h573 fun v601 s600 h602 => ?_))
    refine wpl_sl (n := 1) (pc' := 216) (ls' := [some (.ref 1), some (.int x1), some (.int x2), some (.long x3), none, some (.int x5), some (.int x6), some (.int x7), some (.int x8), some (.int x9), some (.int x10), some (.int x11), none, none]) (st' := [.int x9, .int v601]) rfl ?_
    refine wpl_icmp (a := 238) (b := 219) rfl (by decide) rfl rfl (wpl_br (p := v601 = x9) ⟨fun hc603 => ?_, fun hc603 => ?_⟩)
    · have h604 := h602.1 hc603
      refine wpl_sl (n := 2) (pc' := 221) (ls' := [some (.ref 1), some (.int x1), some (.int x2), some (.long x3), none, some (.int x5), some (.int x6), some (.int x7), some (.int x8), some (.int x9), some (.int x10), some (.int x11), none, none]) (st' := [.int (1 : Int32), .ref 1]) rfl ?_
      refine wpl_v1 (m' := 30) (me' := cm30) (as := [.int (1 : Int32)]) (r := []) rfl rfl rfl rfl rfl ⟨by decide, (by first | decide | exact Nat.le_of_ble_eq_true rfl), (by first | decide | exact Nat.le_of_ble_eq_true rfl), rfl⟩ (cal_I (calI.mono h604 fun v607 s606 h608 => ?_))
      refine wpl_sl (n := 1) (pc' := 226) (ls' := [some (.ref 1), some (.int x1), some (.int x2), some (.long x3), none, some (.int x5), some (.int x6), some (.int x7), some (.int x8), some (.int x9), some (.int x10), some (.int x11), none, none]) (st' := [.int x10, .int v607]) rfl ?_
      refine wpl_icmp (a := 238) (b := 229) rfl (by decide) rfl rfl (wpl_br (p := v607 = x10) ⟨fun hc609 => ?_, fun hc609 => ?_⟩)
      · have h610 := h608.1 hc609
        refine wpl_sl (n := 2) (pc' := 231) (ls' := [some (.ref 1), some (.int x1), some (.int x2), some (.long x3), none, some (.int x5), some (.int x6), some (.int x7), some (.int x8), some (.int x9), some (.int x10), some (.int x11), none, none]) (st' := [.int (2 : Int32), .ref 1]) rfl ?_
        refine wpl_v1 (m' := 30) (me' := cm30) (as := [.int (2 : Int32)]) (r := []) rfl rfl rfl rfl rfl ⟨by decide, (by first | decide | exact Nat.le_of_ble_eq_true rfl), (by first | decide | exact Nat.le_of_ble_eq_true rfl), rfl⟩ (cal_I (calI.mono h610 fun v613 s612 h614 => ?_))
        refine wpl_sl (n := 1) (pc' := 235) (ls' := [some (.ref 1), some (.int x1), some (.int x2), some (.long x3), none, some (.int x5), some (.int x6), some (.int x7), some (.int x8), some (.int x9), some (.int x10), some (.int x11), none, none]) (st' := [.int (-1 : Int32), .int v613]) rfl ?_
        refine wpl_icmp (a := 240) (b := 238) rfl (by decide) rfl rfl (wpl_br (p := v613 = (-1 : Int32)) ⟨fun hc615 => ?_, fun hc615 => ?_⟩)
        · have h616 := h614.1 hc615
          refine wpl_sl (n := 2) (pc' := 243) (ls' := [some (.ref 1), some (.int x1), some (.int x2), some (.long x3), none, some (.int x5), some (.int x6), some (.int x7), some (.int x8), some (.int x9), some (.int x10), some (.int (-1 : Int32)), none, none]) (st' := []) rfl ?_
          exact wpl_lle (ls := [some (.ref 1), none, none, none, none, none, some (.int x6), some (.int x7), some (.int x8), none, none, some (.int (-1 : Int32)), none, none]) ⟨rfl, rfl, rfl, rfl, rfl, trivial⟩ h616
        · have h617 := h614.2 hc615
          refine wpl_sl (n := 1) (pc' := 239) (ls' := [some (.ref 1), some (.int x1), some (.int x2), some (.long x3), none, some (.int x5), some (.int x6), some (.int x7), some (.int x8), some (.int x9), some (.int x10), some (.int x11), none, none]) (st' := [.int (0 : Int32)]) rfl ?_
          exact wpl_ret rfl rfl rfl ⟨(0 : Int32), rfl, h617⟩
      · have h611 := h608.2 hc609
        refine wpl_sl (n := 1) (pc' := 239) (ls' := [some (.ref 1), some (.int x1), some (.int x2), some (.long x3), none, some (.int x5), some (.int x6), some (.int x7), some (.int x8), some (.int x9), some (.int x10), some (.int x11), none, none]) (st' := [.int (0 : Int32)]) rfl ?_
        exact wpl_ret rfl rfl rfl ⟨(0 : Int32), rfl, h611⟩
    · have h605 := h602.2 hc603
      refine wpl_sl (n := 1) (pc' := 239) (ls' := [some (.ref 1), some (.int x1), some (.int x2), some (.long x3), none, some (.int x5), some (.int x6), some (.int x7), some (.int x8), some (.int x9), some (.int x10), some (.int x11), none, none]) (st' := [.int (0 : Int32)]) rfl ?_
      exact wpl_ret rfl rfl rfl ⟨(0 : Int32), rfl, h605⟩
theorem l6r1W1_243 (N : Nat) (sg : Nat → Int32) (x6 : Int32) (x7 : Int32) (x8 : Int32) (x11 : Int32) (s : St) (Q : Int32 → Wd → Prop) (h : ((x11 < (17 : Int32)) → ∀ m621, m621 = (if x11 < (0 : Int32) then (-1 : Int32) else (if x11 < x6 then ((x7 >>> ((x11 * (4 : Int32)) &&& 31)) &&& (15 : Int32)) else (-1 : Int32))) → (wplI PP QQ (some (N, sg)) 6 lm6 276 [some (.ref 1), none, none, none, none, none, some (.int x6), some (.int x7), some (.int x8), none, none, some (.int x11), none, none] [.int m621] (W1 s) Q)) ∧ (¬ (x11 < (17 : Int32)) → Q (1 : Int32) (W1 s))) : wplI PP QQ (some (N, sg)) 6 lm6 243 [some (.ref 1), none, none, none, none, none, some (.int x6), some (.int x7), some (.int x8), none, none, some (.int x11), none, none] [] (W1 s) Q := by
  refine wpl_sl (n := 2) (pc' := 247) (ls' := [some (.ref 1), none, none, none, none, none, some (.int x6), some (.int x7), some (.int x8), none, none, some (.int x11), none, none]) (st' := [.int (17 : Int32), .int x11]) rfl ?_
  refine wpl_icmp (a := 336) (b := 250) rfl (by decide) rfl rfl (wpl_br (p := x11 < (17 : Int32)) ⟨fun hc618 => ?_, fun hc618 => ?_⟩)
  · have h619 := h.1 hc618
    refine wpl_sl (n := 1) (pc' := 252) (ls' := [some (.ref 1), none, none, none, none, none, some (.int x6), some (.int x7), some (.int x8), none, none, some (.int x11), none, none]) (st' := [.int x11]) rfl ?_
    have hm622 : ∀ m621, m621 = (if x11 < (0 : Int32) then (-1 : Int32) else (if x11 < x6 then ((x7 >>> ((x11 * (4 : Int32)) &&& 31)) &&& (15 : Int32)) else (-1 : Int32))) → wplI PP QQ (some (N, sg)) 6 lm6 276 [some (.ref 1), none, none, none, none, none, some (.int x6), some (.int x7), some (.int x8), none, none, some (.int x11), none, none] [.int m621] (W1 s) Q := by
      intro m621 em621
      have h623 := h619 m621 em621
      exact h623
    refine wpl_if (a := 275) (b := 255) rfl (by decide) rfl rfl (wpl_br (p := x11 < (0 : Int32)) ⟨fun hc624 => ?_, fun hc624 => ?_⟩)
    · refine wpl_sl (n := 1) (pc' := 276) (ls' := [some (.ref 1), none, none, none, none, none, some (.int x6), some (.int x7), some (.int x8), none, none, some (.int x11), none, none]) (st' := [.int (-1 : Int32)]) rfl ?_
      first | exact hm622 _ (by simp only [if_pos hc624]) | exact wpl_lle (by repeat (first | exact trivial | refine ⟨rfl, ?_⟩)) (hm622 _ (by simp only [if_pos hc624]))
    · refine wpl_sl (n := 2) (pc' := 259) (ls' := [some (.ref 1), none, none, none, none, none, some (.int x6), some (.int x7), some (.int x8), none, none, some (.int x11), none, none]) (st' := [.int x6, .int x11]) rfl ?_
      refine wpl_icmp (a := 275) (b := 262) rfl (by decide) rfl rfl (wpl_br (p := x11 < x6) ⟨fun hc625 => ?_, fun hc625 => ?_⟩)
      · refine wpl_sl (n := 8) (pc' := 276) (ls' := [some (.ref 1), none, none, none, none, none, some (.int x6), some (.int x7), some (.int x8), none, none, some (.int x11), none, none]) (st' := [.int ((x7 >>> ((x11 * (4 : Int32)) &&& 31)) &&& (15 : Int32))]) rfl ?_
        first | exact hm622 _ (by simp only [if_neg hc624, if_pos hc625]) | exact wpl_lle (by repeat (first | exact trivial | refine ⟨rfl, ?_⟩)) (hm622 _ (by simp only [if_neg hc624, if_pos hc625]))
      · refine wpl_sl (n := 1) (pc' := 276) (ls' := [some (.ref 1), none, none, none, none, none, some (.int x6), some (.int x7), some (.int x8), none, none, some (.int x11), none, none]) (st' := [.int (-1 : Int32)]) rfl ?_
        first | exact hm622 _ (by simp only [if_neg hc624, if_neg hc625]) | exact wpl_lle (by repeat (first | exact trivial | refine ⟨rfl, ?_⟩)) (hm622 _ (by simp only [if_neg hc624, if_neg hc625]))
  · have h620 := h.2 hc618
    refine wpl_sl (n := 1) (pc' := 337) (ls' := [some (.ref 1), none, none, none, none, none, some (.int x6), some (.int x7), some (.int x8), none, none, some (.int x11), none, none]) (st' := [.int (1 : Int32)]) rfl ?_
    exact wpl_ret rfl rfl rfl ⟨(1 : Int32), rfl, h620⟩
theorem l6r1W1_276 (N : Nat) (sg : Nat → Int32) (x6 : Int32) (x7 : Int32) (x8 : Int32) (x11 : Int32) (y0 : Int32) (s : St) (Q : Int32 → Wd → Prop) (h : ∀ m626, m626 = (if x11 < (0 : Int32) then (0 : Int32) else (if x11 < x6 then ((x8 >>> ((x11 * (4 : Int32)) &&& 31)) &&& (15 : Int32)) else (0 : Int32))) → (wplI PP QQ (some (N, sg)) 6 lm6 304 [some (.ref 1), none, none, none, none, none, some (.int x6), some (.int x7), some (.int x8), none, none, some (.int x11), some (.int y0), none] [.int m626] (W1 s) Q)) : wplI PP QQ (some (N, sg)) 6 lm6 276 [some (.ref 1), none, none, none, none, none, some (.int x6), some (.int x7), some (.int x8), none, none, some (.int x11), none, none] [.int y0] (W1 s) Q := by
  refine wpl_sl (n := 2) (pc' := 280) (ls' := [some (.ref 1), none, none, none, none, none, some (.int x6), some (.int x7), some (.int x8), none, none, some (.int x11), some (.int y0), none]) (st' := [.int x11]) rfl ?_
  have hm627 : ∀ m626, m626 = (if x11 < (0 : Int32) then (0 : Int32) else (if x11 < x6 then ((x8 >>> ((x11 * (4 : Int32)) &&& 31)) &&& (15 : Int32)) else (0 : Int32))) → wplI PP QQ (some (N, sg)) 6 lm6 304 [some (.ref 1), none, none, none, none, none, some (.int x6), some (.int x7), some (.int x8), none, none, some (.int x11), some (.int y0), none] [.int m626] (W1 s) Q := by
    intro m626 em626
    have h628 := h m626 em626
    exact h628
  refine wpl_if (a := 303) (b := 283) rfl (by decide) rfl rfl (wpl_br (p := x11 < (0 : Int32)) ⟨fun hc629 => ?_, fun hc629 => ?_⟩)
  · refine wpl_sl (n := 1) (pc' := 304) (ls' := [some (.ref 1), none, none, none, none, none, some (.int x6), some (.int x7), some (.int x8), none, none, some (.int x11), some (.int y0), none]) (st' := [.int (0 : Int32)]) rfl ?_
    first | exact hm627 _ (by simp only [if_pos hc629]) | exact wpl_lle (by repeat (first | exact trivial | refine ⟨rfl, ?_⟩)) (hm627 _ (by simp only [if_pos hc629]))
  · refine wpl_sl (n := 2) (pc' := 287) (ls' := [some (.ref 1), none, none, none, none, none, some (.int x6), some (.int x7), some (.int x8), none, none, some (.int x11), some (.int y0), none]) (st' := [.int x6, .int x11]) rfl ?_
    refine wpl_icmp (a := 303) (b := 290) rfl (by decide) rfl rfl (wpl_br (p := x11 < x6) ⟨fun hc630 => ?_, fun hc630 => ?_⟩)
    · refine wpl_sl (n := 8) (pc' := 304) (ls' := [some (.ref 1), none, none, none, none, none, some (.int x6), some (.int x7), some (.int x8), none, none, some (.int x11), some (.int y0), none]) (st' := [.int ((x8 >>> ((x11 * (4 : Int32)) &&& 31)) &&& (15 : Int32))]) rfl ?_
      first | exact hm627 _ (by simp only [if_neg hc629, if_pos hc630]) | exact wpl_lle (by repeat (first | exact trivial | refine ⟨rfl, ?_⟩)) (hm627 _ (by simp only [if_neg hc629, if_pos hc630]))
    · refine wpl_sl (n := 1) (pc' := 304) (ls' := [some (.ref 1), none, none, none, none, none, some (.int x6), some (.int x7), some (.int x8), none, none, some (.int x11), some (.int y0), none]) (st' := [.int (0 : Int32)]) rfl ?_
      first | exact hm627 _ (by simp only [if_neg hc629, if_neg hc630]) | exact wpl_lle (by repeat (first | exact trivial | refine ⟨rfl, ?_⟩)) (hm627 _ (by simp only [if_neg hc629, if_neg hc630]))
theorem l6r1W1_304 (N : Nat) (sg : Nat → Int32) (x6 : Int32) (x7 : Int32) (x8 : Int32) (x11 : Int32) (x12 : Int32) (y0 : Int32) (s : St) (Q : Int32 → Wd → Prop) (h : calI PP 24 11 [.ref 0, .int x11] s (fun v632 s631 => ((v632 = x12) → calI PP 25 11 [.ref 0, .int x11] s631 (fun v638 s637 => ((v638 = y0) → wplI PP QQ (some (N, sg)) 6 lm6 243 [some (.ref 1), none, none, none, none, none, some (.int x6), some (.int x7), some (.int x8), none, none, some (.int (x11 + (1 : Int32))), none, none] [] (W1 s637) Q) ∧ (¬ (v638 = y0) → Q (0 : Int32) (W1 s637)))) ∧ (¬ (v632 = x12) → Q (0 : Int32) (W1 s631)))) : wplI PP QQ (some (N, sg)) 6 lm6 304 [some (.ref 1), none, none, none, none, none, some (.int x6), some (.int x7), some (.int x8), none, none, some (.int x11), some (.int x12), none] [.int y0] (W1 s) Q := by
  refine wpl_sl (n := 3) (pc' := 309) (ls' := [some (.ref 1), none, none, none, none, none, some (.int x6), some (.int x7), some (.int x8), none, none, some (.int x11), some (.int x12), some (.int y0)]) (st' := [.int x11, .ref 1]) rfl ?_
  refine wpl_v1 (m' := 24) (me' := cm24) (as := [.int x11]) (r := []) rfl rfl rfl rfl rfl ⟨by decide, (by first | decide | exact Nat.le_of_ble_eq_true rfl), (by first | decide | exact Nat.le_of_ble_eq_true rfl), rfl⟩ (cal_I (calI.mono h fun v632 s631 h633 => ?_))
  refine wpl_sl (n := 1) (pc' := 314) (ls' := [some (.ref 1), none, none, none, none, none, some (.int x6), some (.int x7), some (.int x8), none, none, some (.int x11), some (.int x12), some (.int y0)]) (st' := [.int x12, .int v632]) rfl ?_
  refine wpl_icmp (a := 328) (b := 317) rfl (by decide) rfl rfl (wpl_br (p := v632 = x12) ⟨fun hc634 => ?_, fun hc634 => ?_⟩)
  · have h635 := h633.1 hc634
    refine wpl_sl (n := 2) (pc' := 320) (ls' := [some (.ref 1), none, none, none, none, none, some (.int x6), some (.int x7), some (.int x8), none, none, some (.int x11), some (.int x12), some (.int y0)]) (st' := [.int x11, .ref 1]) rfl ?_
    refine wpl_v1 (m' := 25) (me' := cm25) (as := [.int x11]) (r := []) rfl rfl rfl rfl rfl ⟨by decide, (by first | decide | exact Nat.le_of_ble_eq_true rfl), (by first | decide | exact Nat.le_of_ble_eq_true rfl), rfl⟩ (cal_I (calI.mono h635 fun v638 s637 h639 => ?_))
    refine wpl_sl (n := 1) (pc' := 325) (ls' := [some (.ref 1), none, none, none, none, none, some (.int x6), some (.int x7), some (.int x8), none, none, some (.int x11), some (.int x12), some (.int y0)]) (st' := [.int y0, .int v638]) rfl ?_
    refine wpl_icmp (a := 330) (b := 328) rfl (by decide) rfl rfl (wpl_br (p := v638 = y0) ⟨fun hc640 => ?_, fun hc640 => ?_⟩)
    · have h641 := h639.1 hc640
      refine wpl_sl (n := 2) (pc' := 243) (ls' := [some (.ref 1), none, none, none, none, none, some (.int x6), some (.int x7), some (.int x8), none, none, some (.int (x11 + (1 : Int32))), some (.int x12), some (.int y0)]) (st' := []) rfl ?_
      exact wpl_lle (ls := [some (.ref 1), none, none, none, none, none, some (.int x6), some (.int x7), some (.int x8), none, none, some (.int (x11 + (1 : Int32))), none, none]) ⟨rfl, rfl, rfl, rfl, rfl, trivial⟩ h641
    · have h642 := h639.2 hc640
      refine wpl_sl (n := 1) (pc' := 329) (ls' := [some (.ref 1), none, none, none, none, none, some (.int x6), some (.int x7), some (.int x8), none, none, some (.int x11), some (.int x12), some (.int y0)]) (st' := [.int (0 : Int32)]) rfl ?_
      exact wpl_ret rfl rfl rfl ⟨(0 : Int32), rfl, h642⟩
  · have h636 := h633.2 hc634
    refine wpl_sl (n := 1) (pc' := 329) (ls' := [some (.ref 1), none, none, none, none, none, some (.int x6), some (.int x7), some (.int x8), none, none, some (.int x11), some (.int x12), some (.int y0)]) (st' := [.int (0 : Int32)]) rfl ?_
    exact wpl_ret rfl rfl rfl ⟨(0 : Int32), rfl, h636⟩
theorem c7_in (a1 : Int32) (s : St) (Q : Int32 → St → Prop) (h : (((a1 &&& (-52 : Int32)) = (0 : Int32)) → Q (1 : Int32) s) ∧ (¬ ((a1 &&& (-52 : Int32)) = (0 : Int32)) → Q (0 : Int32) s)) : calI PP 7 11 [.ref 0, .int a1] s Q := by
  refine cal_of (me := cm7) (ls := [some (.ref 0), some (.int a1)]) rfl (Nat.le_of_ble_eq_true rfl) rfl ?_
  refine wpc_sl (n := 3) (c' := 11) (pc' := 4) (ls' := [some (.ref 0), some (.int a1)]) (st' := [.int (a1 &&& (-52 : Int32))]) (s' := s) rfl ?_
  refine wpc_if (a := 11) (b := 7) rfl (by decide) rfl rfl (wpc_br (p := (a1 &&& (-52 : Int32)) = (0 : Int32)) ⟨fun hc786 => ?_, fun hc786 => ?_⟩)
  · have h787 := h.1 hc786
    refine wpc_sl (n := 2) (c' := 11) (pc' := 12) (ls' := [some (.ref 0), some (.int a1)]) (st' := [.int (1 : Int32)]) (s' := s) rfl ?_
    exact wpc_ret rfl rfl (fun q => absurd q (by decide)) rfl ⟨(1 : Int32), rfl, h787⟩
  · have h788 := h.2 hc786
    refine wpc_sl (n := 1) (c' := 11) (pc' := 12) (ls' := [some (.ref 0), some (.int a1)]) (st' := [.int (0 : Int32)]) (s' := s) rfl ?_
    exact wpc_ret rfl rfl (fun q => absurd q (by decide)) rfl ⟨(0 : Int32), rfl, h788⟩
theorem c10_in (a1 : Int32) (a2 : Int32) (a3 : Int32) (s : St) (Q : St → Prop) (h : inb 64 a1 ∧ inb 64 a1 ∧ (((a3 &&& (16 : Int32)) = (0 : Int32)) → inb 64 a1 ∧ Q (sI (sI (sI s 7 (ix a1) a3) 8 (ix a1) (1 : Int32)) 9 (ix a1) (0 : Int32))) ∧ (¬ ((a3 &&& (16 : Int32)) = (0 : Int32)) → calI PP 4 11 [.ref 0, .int a2] (sI (sI s 7 (ix a1) a3) 8 (ix a1) (1 : Int32)) (fun v796 s795 => calI PP 5 11 [.ref 0, .int a3] s795 (fun v799 s798 => inb 64 a1 ∧ Q (sI s798 9 (ix a1) (v796 &&& v799)))))) : calV PP 10 11 [.ref 0, .int a1, .int a2, .int a3] s Q := by
  refine cal_of (me := cm10) (ls := [some (.ref 0), some (.int a1), some (.int a2), some (.int a3)]) rfl (Nat.le_of_ble_eq_true rfl) rfl ?_
  refine wpc_sl (n := 4) (c' := 11) (pc' := 6) (ls' := [some (.ref 0), some (.int a1), some (.int a2), some (.int a3)]) (st' := [.int a3, .int a1, .ref 7]) (s' := s) rfl ?_
  refine wpc_staI (a := 6) (N := 64) (s' := (sI s 7 (ix a1) a3)) rfl rfl (by decide) h.1 rfl ?_
  have h789 := h.2
  refine wpc_sl (n := 4) (c' := 11) (pc' := 13) (ls' := [some (.ref 0), some (.int a1), some (.int a2), some (.int a3)]) (st' := [.int (1 : Int32), .int a1, .ref 8]) (s' := (sI s 7 (ix a1) a3)) rfl ?_
  refine wpc_staZ (a := 7) (N := 64) (s' := (sI (sI s 7 (ix a1) a3) 8 (ix a1) (1 : Int32))) rfl rfl (by decide) h789.1 rfl ?_
  have h790 := h789.2
  refine wpc_sl (n := 3) (c' := 11) (pc' := 18) (ls' := [some (.ref 0), some (.int a1), some (.int a2), some (.int a3)]) (st' := [.int (a3 &&& (16 : Int32))]) (s' := (sI (sI s 7 (ix a1) a3) 8 (ix a1) (1 : Int32))) rfl ?_
  refine wpc_if (a := 41) (b := 21) rfl (by decide) rfl rfl (wpc_br (p := (a3 &&& (16 : Int32)) = (0 : Int32)) ⟨fun hc791 => ?_, fun hc791 => ?_⟩)
  · have h792 := h790.1 hc791
    refine wpc_sl (n := 4) (c' := 11) (pc' := 47) (ls' := [some (.ref 0), some (.int a1), some (.int a2), some (.int a3)]) (st' := [.int (0 : Int32), .int a1, .ref 9]) (s' := (sI (sI s 7 (ix a1) a3) 8 (ix a1) (1 : Int32))) rfl ?_
    refine wpc_staI (a := 8) (N := 64) (s' := (sI (sI (sI s 7 (ix a1) a3) 8 (ix a1) (1 : Int32)) 9 (ix a1) (0 : Int32))) rfl rfl (by decide) h792.1 rfl ?_
    have h794 := h792.2
    exact wpc_ret rfl rfl (fun q => absurd q (by decide)) rfl ⟨rfl, h794⟩
  · have h793 := h790.2 hc791
    refine wpc_sl (n := 5) (c' := 11) (pc' := 28) (ls' := [some (.ref 0), some (.int a1), some (.int a2), some (.int a3)]) (st' := [.int a2, .ref 0, .int a1, .ref 9]) (s' := (sI (sI s 7 (ix a1) a3) 8 (ix a1) (1 : Int32))) rfl ?_
    refine wpc_callI (m' := 4) (me' := cm4) (as := [.int a2]) (r := [.int a1, .ref 9]) rfl rfl rfl rfl rfl ⟨by decide, (by first | decide | exact Nat.le_of_ble_eq_true rfl), (by first | decide | exact Nat.le_of_ble_eq_true rfl), rfl⟩ (calI.mono h793 fun v796 s795 h797 => ?_)
    refine wpc_sl (n := 2) (c' := 11) (pc' := 33) (ls' := [some (.ref 0), some (.int a1), some (.int a2), some (.int a3)]) (st' := [.int a3, .ref 0, .int v796, .int a1, .ref 9]) (s' := s795) rfl ?_
    refine wpc_callI (m' := 5) (me' := cm5) (as := [.int a3]) (r := [.int v796, .int a1, .ref 9]) rfl rfl rfl rfl rfl ⟨by decide, (by first | decide | exact Nat.le_of_ble_eq_true rfl), (by first | decide | exact Nat.le_of_ble_eq_true rfl), rfl⟩ (calI.mono h797 fun v799 s798 h800 => ?_)
    refine wpc_sl (n := 1) (c' := 11) (pc' := 37) (ls' := [some (.ref 0), some (.int a1), some (.int a2), some (.int a3)]) (st' := [.int (v796 &&& v799), .int a1, .ref 9]) (s' := s798) rfl ?_
    refine wpc_staI (a := 8) (N := 64) (s' := (sI s798 9 (ix a1) (v796 &&& v799))) rfl rfl (by decide) h800.1 rfl ?_
    have h801 := h800.2
    refine wpc_sl (n := 1) (c' := 11) (pc' := 48) (ls' := [some (.ref 0), some (.int a1), some (.int a2), some (.int a3)]) (st' := []) (s' := (sI s798 9 (ix a1) (v796 &&& v799))) rfl ?_
    exact wpc_ret rfl rfl (fun q => absurd q (by decide)) rfl ⟨rfl, h801⟩
theorem c19_in (a1 : Int32) (a2 : Int32) (a3 : Int32) (s : St) (Q : Int32 → St → Prop) (h : calI PP 6 11 [.ref 0, .int a1] s (fun v758 s757 => ((v758 = (0 : Int32)) → Q (-6 : Int32) s757) ∧ (¬ (v758 = (0 : Int32)) → calI PP 7 11 [.ref 0, .int a3] s757 (fun v764 s763 => ((v764 = (0 : Int32)) → Q (-6 : Int32) s763) ∧ (¬ (v764 = (0 : Int32)) → calI PP 3 11 [.ref 0, .int a2] s763 (fun v770 s769 => ((v770 = (0 : Int32)) → Q (-1 : Int32) s769) ∧ (¬ (v770 = (0 : Int32)) → calI PP 8 11 [.ref 0, .int a1, .int a2] s769 (fun v776 s775 => inb 64 v776 ∧ (((gI s775 6 (ix v776)) = (0 : Int32)) → inb 64 v776 ∧ calV PP 10 11 [.ref 0, .int v776, .int a2, .int a3] (sI s775 6 (ix v776) (1 : Int32)) (fun s783 => Q (0 : Int32) s783)) ∧ (¬ ((gI s775 6 (ix v776)) = (0 : Int32)) → Q (-5 : Int32) s775))))))))) : calI PP 19 11 [.ref 0, .int a1, .int a2, .int a3] s Q := by
  refine cal_of (me := cm19) (ls := [some (.ref 0), some (.int a1), some (.int a2), some (.int a3), none]) rfl (Nat.le_of_ble_eq_true rfl) rfl ?_
  refine wpc_sl (n := 2) (c' := 11) (pc' := 2) (ls' := [some (.ref 0), some (.int a1), some (.int a2), some (.int a3), none]) (st' := [.int a1, .ref 0]) (s' := s) rfl ?_
  refine wpc_callI (m' := 6) (me' := cm6) (as := [.int a1]) (r := []) rfl rfl rfl rfl rfl ⟨by decide, (by first | decide | exact Nat.le_of_ble_eq_true rfl), (by first | decide | exact Nat.le_of_ble_eq_true rfl), rfl⟩ (calI.mono h fun v758 s757 h759 => ?_)
  refine wpc_if (a := 16) (b := 8) rfl (by decide) rfl rfl (wpc_br (p := v758 = (0 : Int32)) ⟨fun hc760 => ?_, fun hc760 => ?_⟩)
  · have h761 := h759.1 hc760
    refine wpc_sl (n := 1) (c' := 11) (pc' := 18) (ls' := [some (.ref 0), some (.int a1), some (.int a2), some (.int a3), none]) (st' := [.int (-6 : Int32)]) (s' := s757) rfl ?_
    exact wpc_ret rfl rfl (fun q => absurd q (by decide)) rfl ⟨(-6 : Int32), rfl, h761⟩
  · have h762 := h759.2 hc760
    refine wpc_sl (n := 2) (c' := 11) (pc' := 10) (ls' := [some (.ref 0), some (.int a1), some (.int a2), some (.int a3), none]) (st' := [.int a3, .ref 0]) (s' := s757) rfl ?_
    refine wpc_callI (m' := 7) (me' := cm7) (as := [.int a3]) (r := []) rfl rfl rfl rfl rfl ⟨by decide, (by first | decide | exact Nat.le_of_ble_eq_true rfl), (by first | decide | exact Nat.le_of_ble_eq_true rfl), rfl⟩ (calI.mono h762 fun v764 s763 h765 => ?_)
    refine wpc_if (a := 19) (b := 16) rfl (by decide) rfl rfl (wpc_br (p := v764 = (0 : Int32)) ⟨fun hc766 => ?_, fun hc766 => ?_⟩)
    · have h767 := h765.1 hc766
      refine wpc_sl (n := 1) (c' := 11) (pc' := 18) (ls' := [some (.ref 0), some (.int a1), some (.int a2), some (.int a3), none]) (st' := [.int (-6 : Int32)]) (s' := s763) rfl ?_
      exact wpc_ret rfl rfl (fun q => absurd q (by decide)) rfl ⟨(-6 : Int32), rfl, h767⟩
    · have h768 := h765.2 hc766
      refine wpc_sl (n := 2) (c' := 11) (pc' := 21) (ls' := [some (.ref 0), some (.int a1), some (.int a2), some (.int a3), none]) (st' := [.int a2, .ref 0]) (s' := s763) rfl ?_
      refine wpc_callI (m' := 3) (me' := cm3) (as := [.int a2]) (r := []) rfl rfl rfl rfl rfl ⟨by decide, (by first | decide | exact Nat.le_of_ble_eq_true rfl), (by first | decide | exact Nat.le_of_ble_eq_true rfl), rfl⟩ (calI.mono h768 fun v770 s769 h771 => ?_)
      refine wpc_if (a := 29) (b := 27) rfl (by decide) rfl rfl (wpc_br (p := v770 = (0 : Int32)) ⟨fun hc772 => ?_, fun hc772 => ?_⟩)
      · have h773 := h771.1 hc772
        refine wpc_sl (n := 1) (c' := 11) (pc' := 28) (ls' := [some (.ref 0), some (.int a1), some (.int a2), some (.int a3), none]) (st' := [.int (-1 : Int32)]) (s' := s769) rfl ?_
        exact wpc_ret rfl rfl (fun q => absurd q (by decide)) rfl ⟨(-1 : Int32), rfl, h773⟩
      · have h774 := h771.2 hc772
        refine wpc_sl (n := 3) (c' := 11) (pc' := 32) (ls' := [some (.ref 0), some (.int a1), some (.int a2), some (.int a3), none]) (st' := [.int a2, .int a1, .ref 0]) (s' := s769) rfl ?_
        refine wpc_callI (m' := 8) (me' := cm8) (as := [.int a1, .int a2]) (r := []) rfl rfl rfl rfl rfl ⟨by decide, (by first | decide | exact Nat.le_of_ble_eq_true rfl), (by first | decide | exact Nat.le_of_ble_eq_true rfl), rfl⟩ (calI.mono h774 fun v776 s775 h777 => ?_)
        refine wpc_sl (n := 4) (c' := 11) (pc' := 43) (ls' := [some (.ref 0), some (.int a1), some (.int a2), some (.int a3), some (.int v776)]) (st' := [.int v776, .ref 6]) (s' := s775) rfl ?_
        refine wpc_ldaZ (a := 5) (N := 64) (v := (gI s775 6 (ix v776))) rfl rfl (by decide) h777.1 rfl ?_
        have h778 := h777.2
        refine wpc_if (a := 50) (b := 47) rfl (by decide) rfl rfl (wpc_br (p := (gI s775 6 (ix v776)) = (0 : Int32)) ⟨fun hc779 => ?_, fun hc779 => ?_⟩)
        · have h780 := h778.1 hc779
          refine wpc_sl (n := 4) (c' := 11) (pc' := 57) (ls' := [some (.ref 0), some (.int a1), some (.int a2), some (.int a3), some (.int v776)]) (st' := [.int (1 : Int32), .int v776, .ref 6]) (s' := s775) rfl ?_
          refine wpc_staZ (a := 5) (N := 64) (s' := (sI s775 6 (ix v776) (1 : Int32))) rfl rfl (by decide) h780.1 rfl ?_
          have h782 := h780.2
          refine wpc_sl (n := 4) (c' := 11) (pc' := 63) (ls' := [some (.ref 0), some (.int a1), some (.int a2), some (.int a3), some (.int v776)]) (st' := [.int a3, .int a2, .int v776, .ref 0]) (s' := (sI s775 6 (ix v776) (1 : Int32))) rfl ?_
          refine wpc_callV (m' := 10) (me' := cm10) (as := [.int v776, .int a2, .int a3]) (r := []) rfl rfl rfl rfl rfl ⟨by decide, (by first | decide | exact Nat.le_of_ble_eq_true rfl), (by first | decide | exact Nat.le_of_ble_eq_true rfl), rfl⟩ (calV.mono h782 fun s783 h785 => ?_)
          refine wpc_sl (n := 1) (c' := 11) (pc' := 67) (ls' := [some (.ref 0), some (.int a1), some (.int a2), some (.int a3), some (.int v776)]) (st' := [.int (0 : Int32)]) (s' := s783) rfl ?_
          exact wpc_ret rfl rfl (fun q => absurd q (by decide)) rfl ⟨(0 : Int32), rfl, h785⟩
        · have h781 := h778.2 hc779
          refine wpc_sl (n := 1) (c' := 11) (pc' := 49) (ls' := [some (.ref 0), some (.int a1), some (.int a2), some (.int a3), some (.int v776)]) (st' := [.int (-5 : Int32)]) (s' := s775) rfl ?_
          exact wpc_ret rfl rfl (fun q => absurd q (by decide)) rfl ⟨(-5 : Int32), rfl, h781⟩
theorem c20_in (a1 : Int32) (a2 : Int32) (a3 : Int32) (s : St) (Q : Int32 → St → Prop) (h : calI PP 6 11 [.ref 0, .int a1] s (fun v803 s802 => ((v803 = (0 : Int32)) → Q (-6 : Int32) s802) ∧ (¬ (v803 = (0 : Int32)) → calI PP 7 11 [.ref 0, .int a3] s802 (fun v809 s808 => ((v809 = (0 : Int32)) → Q (-6 : Int32) s808) ∧ (¬ (v809 = (0 : Int32)) → calI PP 3 11 [.ref 0, .int a2] s808 (fun v815 s814 => ((v815 = (0 : Int32)) → Q (-1 : Int32) s814) ∧ (¬ (v815 = (0 : Int32)) → calI PP 8 11 [.ref 0, .int a1, .int a2] s814 (fun v821 s820 => inb 64 v821 ∧ (((gI s820 6 (ix v821)) = (0 : Int32)) → Q (-7 : Int32) s820) ∧ (¬ ((gI s820 6 (ix v821)) = (0 : Int32)) → calV PP 10 11 [.ref 0, .int v821, .int a2, .int a3] s820 (fun s827 => Q (0 : Int32) s827)))))))))) : calI PP 20 11 [.ref 0, .int a1, .int a2, .int a3] s Q := by
  refine cal_of (me := cm20) (ls := [some (.ref 0), some (.int a1), some (.int a2), some (.int a3), none]) rfl (Nat.le_of_ble_eq_true rfl) rfl ?_
  refine wpc_sl (n := 2) (c' := 11) (pc' := 2) (ls' := [some (.ref 0), some (.int a1), some (.int a2), some (.int a3), none]) (st' := [.int a1, .ref 0]) (s' := s) rfl ?_
  refine wpc_callI (m' := 6) (me' := cm6) (as := [.int a1]) (r := []) rfl rfl rfl rfl rfl ⟨by decide, (by first | decide | exact Nat.le_of_ble_eq_true rfl), (by first | decide | exact Nat.le_of_ble_eq_true rfl), rfl⟩ (calI.mono h fun v803 s802 h804 => ?_)
  refine wpc_if (a := 16) (b := 8) rfl (by decide) rfl rfl (wpc_br (p := v803 = (0 : Int32)) ⟨fun hc805 => ?_, fun hc805 => ?_⟩)
  · have h806 := h804.1 hc805
    refine wpc_sl (n := 1) (c' := 11) (pc' := 18) (ls' := [some (.ref 0), some (.int a1), some (.int a2), some (.int a3), none]) (st' := [.int (-6 : Int32)]) (s' := s802) rfl ?_
    exact wpc_ret rfl rfl (fun q => absurd q (by decide)) rfl ⟨(-6 : Int32), rfl, h806⟩
  · have h807 := h804.2 hc805
    refine wpc_sl (n := 2) (c' := 11) (pc' := 10) (ls' := [some (.ref 0), some (.int a1), some (.int a2), some (.int a3), none]) (st' := [.int a3, .ref 0]) (s' := s802) rfl ?_
    refine wpc_callI (m' := 7) (me' := cm7) (as := [.int a3]) (r := []) rfl rfl rfl rfl rfl ⟨by decide, (by first | decide | exact Nat.le_of_ble_eq_true rfl), (by first | decide | exact Nat.le_of_ble_eq_true rfl), rfl⟩ (calI.mono h807 fun v809 s808 h810 => ?_)
    refine wpc_if (a := 19) (b := 16) rfl (by decide) rfl rfl (wpc_br (p := v809 = (0 : Int32)) ⟨fun hc811 => ?_, fun hc811 => ?_⟩)
    · have h812 := h810.1 hc811
      refine wpc_sl (n := 1) (c' := 11) (pc' := 18) (ls' := [some (.ref 0), some (.int a1), some (.int a2), some (.int a3), none]) (st' := [.int (-6 : Int32)]) (s' := s808) rfl ?_
      exact wpc_ret rfl rfl (fun q => absurd q (by decide)) rfl ⟨(-6 : Int32), rfl, h812⟩
    · have h813 := h810.2 hc811
      refine wpc_sl (n := 2) (c' := 11) (pc' := 21) (ls' := [some (.ref 0), some (.int a1), some (.int a2), some (.int a3), none]) (st' := [.int a2, .ref 0]) (s' := s808) rfl ?_
      refine wpc_callI (m' := 3) (me' := cm3) (as := [.int a2]) (r := []) rfl rfl rfl rfl rfl ⟨by decide, (by first | decide | exact Nat.le_of_ble_eq_true rfl), (by first | decide | exact Nat.le_of_ble_eq_true rfl), rfl⟩ (calI.mono h813 fun v815 s814 h816 => ?_)
      refine wpc_if (a := 29) (b := 27) rfl (by decide) rfl rfl (wpc_br (p := v815 = (0 : Int32)) ⟨fun hc817 => ?_, fun hc817 => ?_⟩)
      · have h818 := h816.1 hc817
        refine wpc_sl (n := 1) (c' := 11) (pc' := 28) (ls' := [some (.ref 0), some (.int a1), some (.int a2), some (.int a3), none]) (st' := [.int (-1 : Int32)]) (s' := s814) rfl ?_
        exact wpc_ret rfl rfl (fun q => absurd q (by decide)) rfl ⟨(-1 : Int32), rfl, h818⟩
      · have h819 := h816.2 hc817
        refine wpc_sl (n := 3) (c' := 11) (pc' := 32) (ls' := [some (.ref 0), some (.int a1), some (.int a2), some (.int a3), none]) (st' := [.int a2, .int a1, .ref 0]) (s' := s814) rfl ?_
        refine wpc_callI (m' := 8) (me' := cm8) (as := [.int a1, .int a2]) (r := []) rfl rfl rfl rfl rfl ⟨by decide, (by first | decide | exact Nat.le_of_ble_eq_true rfl), (by first | decide | exact Nat.le_of_ble_eq_true rfl), rfl⟩ (calI.mono h819 fun v821 s820 h822 => ?_)
        refine wpc_sl (n := 4) (c' := 11) (pc' := 43) (ls' := [some (.ref 0), some (.int a1), some (.int a2), some (.int a3), some (.int v821)]) (st' := [.int v821, .ref 6]) (s' := s820) rfl ?_
        refine wpc_ldaZ (a := 5) (N := 64) (v := (gI s820 6 (ix v821))) rfl rfl (by decide) h822.1 rfl ?_
        have h823 := h822.2
        refine wpc_if (a := 50) (b := 47) rfl (by decide) rfl rfl (wpc_br (p := (gI s820 6 (ix v821)) = (0 : Int32)) ⟨fun hc824 => ?_, fun hc824 => ?_⟩)
        · have h825 := h823.1 hc824
          refine wpc_sl (n := 1) (c' := 11) (pc' := 49) (ls' := [some (.ref 0), some (.int a1), some (.int a2), some (.int a3), some (.int v821)]) (st' := [.int (-7 : Int32)]) (s' := s820) rfl ?_
          exact wpc_ret rfl rfl (fun q => absurd q (by decide)) rfl ⟨(-7 : Int32), rfl, h825⟩
        · have h826 := h823.2 hc824
          refine wpc_sl (n := 4) (c' := 11) (pc' := 55) (ls' := [some (.ref 0), some (.int a1), some (.int a2), some (.int a3), some (.int v821)]) (st' := [.int a3, .int a2, .int v821, .ref 0]) (s' := s820) rfl ?_
          refine wpc_callV (m' := 10) (me' := cm10) (as := [.int v821, .int a2, .int a3]) (r := []) rfl rfl rfl rfl rfl ⟨by decide, (by first | decide | exact Nat.le_of_ble_eq_true rfl), (by first | decide | exact Nat.le_of_ble_eq_true rfl), rfl⟩ (calV.mono h826 fun s827 h829 => ?_)
          refine wpc_sl (n := 1) (c' := 11) (pc' := 59) (ls' := [some (.ref 0), some (.int a1), some (.int a2), some (.int a3), some (.int v821)]) (st' := [.int (0 : Int32)]) (s' := s827) rfl ?_
          exact wpc_ret rfl rfl (fun q => absurd q (by decide)) rfl ⟨(0 : Int32), rfl, h829⟩
theorem c21_in (a1 : Int32) (a2 : Int32) (s : St) (Q : Int32 → St → Prop) (h : calI PP 6 11 [.ref 0, .int a1] s (fun v831 s830 => ((v831 = (0 : Int32)) → Q (-6 : Int32) s830) ∧ (¬ (v831 = (0 : Int32)) → calI PP 3 11 [.ref 0, .int a2] s830 (fun v837 s836 => ((v837 = (0 : Int32)) → Q (-1 : Int32) s836) ∧ (¬ (v837 = (0 : Int32)) → calI PP 8 11 [.ref 0, .int a1, .int a2] s836 (fun v843 s842 => inb 64 v843 ∧ (((gI s842 6 (ix v843)) = (0 : Int32)) → Q (-7 : Int32) s842) ∧ (¬ ((gI s842 6 (ix v843)) = (0 : Int32)) → calV PP 11 11 [.ref 0, .int v843] s842 (fun s849 => Q (0 : Int32) s849)))))))) : calI PP 21 11 [.ref 0, .int a1, .int a2] s Q := by
  refine cal_of (me := cm21) (ls := [some (.ref 0), some (.int a1), some (.int a2), none]) rfl (Nat.le_of_ble_eq_true rfl) rfl ?_
  refine wpc_sl (n := 2) (c' := 11) (pc' := 2) (ls' := [some (.ref 0), some (.int a1), some (.int a2), none]) (st' := [.int a1, .ref 0]) (s' := s) rfl ?_
  refine wpc_callI (m' := 6) (me' := cm6) (as := [.int a1]) (r := []) rfl rfl rfl rfl rfl ⟨by decide, (by first | decide | exact Nat.le_of_ble_eq_true rfl), (by first | decide | exact Nat.le_of_ble_eq_true rfl), rfl⟩ (calI.mono h fun v831 s830 h832 => ?_)
  refine wpc_if (a := 11) (b := 8) rfl (by decide) rfl rfl (wpc_br (p := v831 = (0 : Int32)) ⟨fun hc833 => ?_, fun hc833 => ?_⟩)
  · have h834 := h832.1 hc833
    refine wpc_sl (n := 1) (c' := 11) (pc' := 10) (ls' := [some (.ref 0), some (.int a1), some (.int a2), none]) (st' := [.int (-6 : Int32)]) (s' := s830) rfl ?_
    exact wpc_ret rfl rfl (fun q => absurd q (by decide)) rfl ⟨(-6 : Int32), rfl, h834⟩
  · have h835 := h832.2 hc833
    refine wpc_sl (n := 2) (c' := 11) (pc' := 13) (ls' := [some (.ref 0), some (.int a1), some (.int a2), none]) (st' := [.int a2, .ref 0]) (s' := s830) rfl ?_
    refine wpc_callI (m' := 3) (me' := cm3) (as := [.int a2]) (r := []) rfl rfl rfl rfl rfl ⟨by decide, (by first | decide | exact Nat.le_of_ble_eq_true rfl), (by first | decide | exact Nat.le_of_ble_eq_true rfl), rfl⟩ (calI.mono h835 fun v837 s836 h838 => ?_)
    refine wpc_if (a := 21) (b := 19) rfl (by decide) rfl rfl (wpc_br (p := v837 = (0 : Int32)) ⟨fun hc839 => ?_, fun hc839 => ?_⟩)
    · have h840 := h838.1 hc839
      refine wpc_sl (n := 1) (c' := 11) (pc' := 20) (ls' := [some (.ref 0), some (.int a1), some (.int a2), none]) (st' := [.int (-1 : Int32)]) (s' := s836) rfl ?_
      exact wpc_ret rfl rfl (fun q => absurd q (by decide)) rfl ⟨(-1 : Int32), rfl, h840⟩
    · have h841 := h838.2 hc839
      refine wpc_sl (n := 3) (c' := 11) (pc' := 24) (ls' := [some (.ref 0), some (.int a1), some (.int a2), none]) (st' := [.int a2, .int a1, .ref 0]) (s' := s836) rfl ?_
      refine wpc_callI (m' := 8) (me' := cm8) (as := [.int a1, .int a2]) (r := []) rfl rfl rfl rfl rfl ⟨by decide, (by first | decide | exact Nat.le_of_ble_eq_true rfl), (by first | decide | exact Nat.le_of_ble_eq_true rfl), rfl⟩ (calI.mono h841 fun v843 s842 h844 => ?_)
      refine wpc_sl (n := 4) (c' := 11) (pc' := 33) (ls' := [some (.ref 0), some (.int a1), some (.int a2), some (.int v843)]) (st' := [.int v843, .ref 6]) (s' := s842) rfl ?_
      refine wpc_ldaZ (a := 5) (N := 64) (v := (gI s842 6 (ix v843))) rfl rfl (by decide) h844.1 rfl ?_
      have h845 := h844.2
      refine wpc_if (a := 40) (b := 37) rfl (by decide) rfl rfl (wpc_br (p := (gI s842 6 (ix v843)) = (0 : Int32)) ⟨fun hc846 => ?_, fun hc846 => ?_⟩)
      · have h847 := h845.1 hc846
        refine wpc_sl (n := 1) (c' := 11) (pc' := 39) (ls' := [some (.ref 0), some (.int a1), some (.int a2), some (.int v843)]) (st' := [.int (-7 : Int32)]) (s' := s842) rfl ?_
        exact wpc_ret rfl rfl (fun q => absurd q (by decide)) rfl ⟨(-7 : Int32), rfl, h847⟩
      · have h848 := h845.2 hc846
        refine wpc_sl (n := 2) (c' := 11) (pc' := 42) (ls' := [some (.ref 0), some (.int a1), some (.int a2), some (.int v843)]) (st' := [.int v843, .ref 0]) (s' := s842) rfl ?_
        refine wpc_callV (m' := 11) (me' := cm11) (as := [.int v843]) (r := []) rfl rfl rfl rfl rfl ⟨by decide, (by first | decide | exact Nat.le_of_ble_eq_true rfl), (by first | decide | exact Nat.le_of_ble_eq_true rfl), rfl⟩ (calV.mono h848 fun s849 h851 => ?_)
        refine wpc_sl (n := 1) (c' := 11) (pc' := 46) (ls' := [some (.ref 0), some (.int a1), some (.int a2), some (.int v843)]) (st' := [.int (0 : Int32)]) (s' := s849) rfl ?_
        exact wpc_ret rfl rfl (fun q => absurd q (by decide)) rfl ⟨(0 : Int32), rfl, h851⟩
theorem l0_in (N : Nat) (sg : Nat → Int32)   (Q : Int32 → Wd → Prop) (h : calV PP 0 0 [.ref 0, .int (2 : Int32), .int (4 : Int32), .int (2 : Int32)] s0 (fun s1 => wplI PP QQ (some (N, sg)) 0 lm0 36 [some (.ref 0), some (.ref 1), some (.int (0 : Int32)), some (.int (0 : Int32)), some (.int (0 : Int32)), some (.int (0 : Int32)), some (.int (0 : Int32)), some (.int (0 : Int32)), some (.long (0 : Int64)), none, some (.long (0 : Int64)), none, some (.int (0 : Int32)), none, none, none, none, none, none, none, none, none, none, none, none, none, none, none, none, none, none] [] (W1 s1) Q)) : lalI PP QQ (some (N, sg)) 0 [.ref 0] W0 Q := by
  refine lal_of (me := lm0) (ls := [some (.ref 0), none, none, none, none, none, none, none, none, none, none, none, none, none, none, none, none, none, none, none, none, none, none, none, none, none, none, none, none, none, none]) rfl (Nat.le_of_ble_eq_true rfl) rfl ?_
  refine wpl_new0 rfl rfl (by decide) (by decide) ?_
  refine wpl_sl (n := 4) (pc' := 7) (ls' := [some (.ref 0), none, none, none, none, none, none, none, none, none, none, none, none, none, none, none, none, none, none, none, none, none, none, none, none, none, none, none, none, none, none]) (st' := [.int (2 : Int32), .int (4 : Int32), .int (2 : Int32), .ref 1, .ref 1]) rfl ?_
  refine wpl_ctor0 (me' := cm0) (as := [.int (2 : Int32), .int (4 : Int32), .int (2 : Int32)]) (r := [.ref 1]) rfl rfl rfl rfl rfl ⟨by decide, by decide, rfl, by decide, by decide⟩ (calV.mono h fun s1 h2 => ?_)
  refine wpl_sl (n := 5) (pc' := 15) (ls' := [some (.ref 0), some (.ref 1), some (.int (0 : Int32)), some (.int (0 : Int32)), none, none, none, none, none, none, none, none, none, none, none, none, none, none, none, none, none, none, none, none, none, none, none, none, none, none, none]) (st' := []) rfl ?_
  refine wpl_sl (n := 5) (pc' := 22) (ls' := [some (.ref 0), some (.ref 1), some (.int (0 : Int32)), some (.int (0 : Int32)), some (.int (0 : Int32)), some (.int (0 : Int32)), none, none, none, none, none, none, none, none, none, none, none, none, none, none, none, none, none, none, none, none, none, none, none, none, none]) (st' := [.int (0 : Int32)]) rfl ?_
  refine wpl_sl (n := 5) (pc' := 30) (ls' := [some (.ref 0), some (.ref 1), some (.int (0 : Int32)), some (.int (0 : Int32)), some (.int (0 : Int32)), some (.int (0 : Int32)), some (.int (0 : Int32)), some (.int (0 : Int32)), some (.long (0 : Int64)), none, none, none, none, none, none, none, none, none, none, none, none, none, none, none, none, none, none, none, none, none, none]) (st' := []) rfl ?_
  refine wpl_sl (n := 4) (pc' := 36) (ls' := [some (.ref 0), some (.ref 1), some (.int (0 : Int32)), some (.int (0 : Int32)), some (.int (0 : Int32)), some (.int (0 : Int32)), some (.int (0 : Int32)), some (.int (0 : Int32)), some (.long (0 : Int64)), none, some (.long (0 : Int64)), none, some (.int (0 : Int32)), none, none, none, none, none, none, none, none, none, none, none, none, none, none, none, none, none, none]) (st' := []) rfl ?_
  exact h2
theorem l0_36 (N : Nat) (sg : Nat → Int32) (x2 : Int32) (x3 : Int32) (x4 : Int32) (x5 : Int32) (x6 : Int32) (x7 : Int32) (x8 : Int64) (x10 : Int64) (x12 : Int32)  (Q : Int32 → Wd → Prop) (h : (((x12 + (3 : Int32)) < (Int32.ofNat N)) → inb N x12 ∧ inb N (x12 + (1 : Int32)) ∧ inb N (x12 + (2 : Int32)) ∧ inb N (x12 + (3 : Int32)) ∧ ∀ m10, m10 = (if ((sg (ix (x12 + (3 : Int32)))) &&& (255 : Int32)) < (248 : Int32) then (0 : Int32) else (64 : Int32)) → (∀ m13, m13 = (if (((sg (ix (x12 + (2 : Int32)))) &&& (255 : Int32)) % (5 : Int32)) < (4 : Int32) then (if ((x2 >>> ((((sg (ix (x12 + (2 : Int32)))) &&& (255 : Int32)) % (5 : Int32)) &&& 31)) &&& (1 : Int32)) = (0 : Int32) then (0 : Int32) else (1 : Int32)) else (0 : Int32)) → (wplI PP QQ (some (N, sg)) 0 lm0 163 [some (.ref 0), some (.ref 1), some (.int x2), some (.int x3), some (.int x4), some (.int x5), some (.int x6), some (.int x7), some (.long x8), none, some (.long x10), none, some (.int x12), some (.int ((sg (ix x12)) &&& (7 : Int32))), none, some (.int ((sg (ix (x12 + (2 : Int32)))) &&& (255 : Int32))), some (.int ((sg (ix (x12 + (3 : Int32)))) &&& (255 : Int32))), some (.int (((sg (ix (x12 + (1 : Int32)))) &&& (255 : Int32)) % (3 : Int32))), some (.int (((sg (ix (x12 + (2 : Int32)))) &&& (255 : Int32)) % (5 : Int32))), some (.int ((((sg (ix (x12 + (2 : Int32)))) &&& (255 : Int32)) % (5 : Int32)) >>> ((1 : Int32) &&& 31))), some (.int (0 : Int32)), none, some (.int (((((sg (ix (x12 + (3 : Int32)))) &&& (255 : Int32)) &&& (3 : Int32)) ||| ((((sg (ix (x12 + (3 : Int32)))) &&& (255 : Int32)) &&& (12 : Int32)) <<< ((2 : Int32) &&& 31))) ||| m10)), none, none, none, none, none, none, none, none] [.int m13] (W1 s) Q))) ∧ (¬ ((x12 + (3 : Int32)) < (Int32.ofNat N)) → Q (1 : Int32) (W1 s))) : wplI PP QQ (some (N, sg)) 0 lm0 36 [some (.ref 0), some (.ref 1), some (.int x2), some (.int x3), some (.int x4), some (.int x5), some (.int x6), some (.int x7), some (.long x8), none, some (.long x10), none, some (.int x12), none, none, none, none, none, none, none, none, none, none, none, none, none, none, none, none, none, none] [] (W1 s) Q := by
  refine wpl_sl (n := 4) (pc' := 41) (ls' := [some (.ref 0), some (.ref 1), some (.int x2), some (.int x3), some (.int x4), some (.int x5), some (.int x6), some (.int x7), some (.long x8), none, some (.long x10), none, some (.int x12), none, none, none, none, none, none, none, none, none, none, none, none, none, none, none, none, none, none]) (st' := [.ref 0, .int (x12 + (3 : Int32))]) rfl ?_
  refine wpl_len rfl ?_
  refine wpl_icmp (a := 1160) (b := 45) rfl (by decide) rfl rfl (wpl_br (p := (x12 + (3 : Int32)) < (Int32.ofNat N)) ⟨fun hc3 => ?_, fun hc3 => ?_⟩)
  · have h4 := h.1 hc3
    refine wpl_sl (n := 2) (pc' := 48) (ls' := [some (.ref 0), some (.ref 1), some (.int x2), some (.int x3), some (.int x4), some (.int x5), some (.int x6), some (.int x7), some (.long x8), none, some (.long x10), none, some (.int x12), none, none, none, none, none, none, none, none, none, none, none, none, none, none, none, none, none, none]) (st' := [.int x12, .ref 0]) rfl ?_
    refine wpl_lda rfl h4.1 ?_
    have h6 := h4.2
    refine wpl_sl (n := 7) (pc' := 59) (ls' := [some (.ref 0), some (.ref 1), some (.int x2), some (.int x3), some (.int x4), some (.int x5), some (.int x6), some (.int x7), some (.long x8), none, some (.long x10), none, some (.int x12), some (.int ((sg (ix x12)) &&& (7 : Int32))), none, none, none, none, none, none, none, none, none, none, none, none, none, none, none, none, none]) (st' := [.int (x12 + (1 : Int32)), .ref 0]) rfl ?_
    refine wpl_lda rfl h6.1 ?_
    have h7 := h6.2
    refine wpl_sl (n := 7) (pc' := 71) (ls' := [some (.ref 0), some (.ref 1), some (.int x2), some (.int x3), some (.int x4), some (.int x5), some (.int x6), some (.int x7), some (.long x8), none, some (.long x10), none, some (.int x12), some (.int ((sg (ix x12)) &&& (7 : Int32))), some (.int ((sg (ix (x12 + (1 : Int32)))) &&& (255 : Int32))), none, none, none, none, none, none, none, none, none, none, none, none, none, none, none, none]) (st' := [.int (x12 + (2 : Int32)), .ref 0]) rfl ?_
    refine wpl_lda rfl h7.1 ?_
    have h8 := h7.2
    refine wpl_sl (n := 7) (pc' := 83) (ls' := [some (.ref 0), some (.ref 1), some (.int x2), some (.int x3), some (.int x4), some (.int x5), some (.int x6), some (.int x7), some (.long x8), none, some (.long x10), none, some (.int x12), some (.int ((sg (ix x12)) &&& (7 : Int32))), some (.int ((sg (ix (x12 + (1 : Int32)))) &&& (255 : Int32))), some (.int ((sg (ix (x12 + (2 : Int32)))) &&& (255 : Int32))), none, none, none, none, none, none, none, none, none, none, none, none, none, none, none]) (st' := [.int (x12 + (3 : Int32)), .ref 0]) rfl ?_
    refine wpl_lda rfl h8.1 ?_
    have h9 := h8.2
    refine wpl_sl (n := 5) (pc' := 93) (ls' := [some (.ref 0), some (.ref 1), some (.int x2), some (.int x3), some (.int x4), some (.int x5), some (.int x6), some (.int x7), some (.long x8), none, some (.long x10), none, some (.int x12), some (.int ((sg (ix x12)) &&& (7 : Int32))), some (.int ((sg (ix (x12 + (1 : Int32)))) &&& (255 : Int32))), some (.int ((sg (ix (x12 + (2 : Int32)))) &&& (255 : Int32))), some (.int ((sg (ix (x12 + (3 : Int32)))) &&& (255 : Int32))), none, none, none, none, none, none, none, none, none, none, none, none, none, none]) (st' := [.int (3 : Int32), .int ((sg (ix (x12 + (1 : Int32)))) &&& (255 : Int32))]) rfl ?_
    refine wpl_sl (n := 5) (pc' := 100) (ls' := [some (.ref 0), some (.ref 1), some (.int x2), some (.int x3), some (.int x4), some (.int x5), some (.int x6), some (.int x7), some (.long x8), none, some (.long x10), none, some (.int x12), some (.int ((sg (ix x12)) &&& (7 : Int32))), some (.int ((sg (ix (x12 + (1 : Int32)))) &&& (255 : Int32))), some (.int ((sg (ix (x12 + (2 : Int32)))) &&& (255 : Int32))), some (.int ((sg (ix (x12 + (3 : Int32)))) &&& (255 : Int32))), some (.int (((sg (ix (x12 + (1 : Int32)))) &&& (255 : Int32)) % (3 : Int32))), none, none, none, none, none, none, none, none, none, none, none, none, none]) (st' := [.int (((sg (ix (x12 + (2 : Int32)))) &&& (255 : Int32)) % (5 : Int32))]) rfl ?_
    refine wpl_sl (n := 5) (pc' := 108) (ls' := [some (.ref 0), some (.ref 1), some (.int x2), some (.int x3), some (.int x4), some (.int x5), some (.int x6), some (.int x7), some (.long x8), none, some (.long x10), none, some (.int x12), some (.int ((sg (ix x12)) &&& (7 : Int32))), some (.int ((sg (ix (x12 + (1 : Int32)))) &&& (255 : Int32))), some (.int ((sg (ix (x12 + (2 : Int32)))) &&& (255 : Int32))), some (.int ((sg (ix (x12 + (3 : Int32)))) &&& (255 : Int32))), some (.int (((sg (ix (x12 + (1 : Int32)))) &&& (255 : Int32)) % (3 : Int32))), some (.int (((sg (ix (x12 + (2 : Int32)))) &&& (255 : Int32)) % (5 : Int32))), some (.int ((((sg (ix (x12 + (2 : Int32)))) &&& (255 : Int32)) % (5 : Int32)) >>> ((1 : Int32) &&& 31))), none, none, none, none, none, none, none, none, none, none, none]) (st' := []) rfl ?_
    refine wpl_sl (n := 5) (pc' := 116) (ls' := [some (.ref 0), some (.ref 1), some (.int x2), some (.int x3), some (.int x4), some (.int x5), some (.int x6), some (.int x7), some (.long x8), none, some (.long x10), none, some (.int x12), some (.int ((sg (ix x12)) &&& (7 : Int32))), some (.int ((sg (ix (x12 + (1 : Int32)))) &&& (255 : Int32))), some (.int ((sg (ix (x12 + (2 : Int32)))) &&& (255 : Int32))), some (.int ((sg (ix (x12 + (3 : Int32)))) &&& (255 : Int32))), some (.int (((sg (ix (x12 + (1 : Int32)))) &&& (255 : Int32)) % (3 : Int32))), some (.int (((sg (ix (x12 + (2 : Int32)))) &&& (255 : Int32)) % (5 : Int32))), some (.int ((((sg (ix (x12 + (2 : Int32)))) &&& (255 : Int32)) % (5 : Int32)) >>> ((1 : Int32) &&& 31))), some (.int (0 : Int32)), some (.int (0 : Int32)), none, none, none, none, none, none, none, none, none]) (st' := [.int ((sg (ix (x12 + (3 : Int32)))) &&& (255 : Int32))]) rfl ?_
    refine wpl_sl (n := 5) (pc' := 123) (ls' := [some (.ref 0), some (.ref 1), some (.int x2), some (.int x3), some (.int x4), some (.int x5), some (.int x6), some (.int x7), some (.long x8), none, some (.long x10), none, some (.int x12), some (.int ((sg (ix x12)) &&& (7 : Int32))), some (.int ((sg (ix (x12 + (1 : Int32)))) &&& (255 : Int32))), some (.int ((sg (ix (x12 + (2 : Int32)))) &&& (255 : Int32))), some (.int ((sg (ix (x12 + (3 : Int32)))) &&& (255 : Int32))), some (.int (((sg (ix (x12 + (1 : Int32)))) &&& (255 : Int32)) % (3 : Int32))), some (.int (((sg (ix (x12 + (2 : Int32)))) &&& (255 : Int32)) % (5 : Int32))), some (.int ((((sg (ix (x12 + (2 : Int32)))) &&& (255 : Int32)) % (5 : Int32)) >>> ((1 : Int32) &&& 31))), some (.int (0 : Int32)), some (.int (0 : Int32)), none, none, none, none, none, none, none, none, none]) (st' := [.int (((sg (ix (x12 + (3 : Int32)))) &&& (255 : Int32)) &&& (12 : Int32)), .int (((sg (ix (x12 + (3 : Int32)))) &&& (255 : Int32)) &&& (3 : Int32))]) rfl ?_
    refine wpl_sl (n := 5) (pc' := 131) (ls' := [some (.ref 0), some (.ref 1), some (.int x2), some (.int x3), some (.int x4), some (.int x5), some (.int x6), some (.int x7), some (.long x8), none, some (.long x10), none, some (.int x12), some (.int ((sg (ix x12)) &&& (7 : Int32))), some (.int ((sg (ix (x12 + (1 : Int32)))) &&& (255 : Int32))), some (.int ((sg (ix (x12 + (2 : Int32)))) &&& (255 : Int32))), some (.int ((sg (ix (x12 + (3 : Int32)))) &&& (255 : Int32))), some (.int (((sg (ix (x12 + (1 : Int32)))) &&& (255 : Int32)) % (3 : Int32))), some (.int (((sg (ix (x12 + (2 : Int32)))) &&& (255 : Int32)) % (5 : Int32))), some (.int ((((sg (ix (x12 + (2 : Int32)))) &&& (255 : Int32)) % (5 : Int32)) >>> ((1 : Int32) &&& 31))), some (.int (0 : Int32)), some (.int (0 : Int32)), none, none, none, none, none, none, none, none, none]) (st' := [.int (248 : Int32), .int ((sg (ix (x12 + (3 : Int32)))) &&& (255 : Int32)), .int ((((sg (ix (x12 + (3 : Int32)))) &&& (255 : Int32)) &&& (3 : Int32)) ||| ((((sg (ix (x12 + (3 : Int32)))) &&& (255 : Int32)) &&& (12 : Int32)) <<< ((2 : Int32) &&& 31)))]) rfl ?_
    have hm11 : ∀ m10, m10 = (if ((sg (ix (x12 + (3 : Int32)))) &&& (255 : Int32)) < (248 : Int32) then (0 : Int32) else (64 : Int32)) → wplI PP QQ (some (N, sg)) 0 lm0 140 [some (.ref 0), some (.ref 1), some (.int x2), some (.int x3), some (.int x4), some (.int x5), some (.int x6), some (.int x7), some (.long x8), none, some (.long x10), none, some (.int x12), some (.int ((sg (ix x12)) &&& (7 : Int32))), some (.int ((sg (ix (x12 + (1 : Int32)))) &&& (255 : Int32))), some (.int ((sg (ix (x12 + (2 : Int32)))) &&& (255 : Int32))), some (.int ((sg (ix (x12 + (3 : Int32)))) &&& (255 : Int32))), some (.int (((sg (ix (x12 + (1 : Int32)))) &&& (255 : Int32)) % (3 : Int32))), some (.int (((sg (ix (x12 + (2 : Int32)))) &&& (255 : Int32)) % (5 : Int32))), some (.int ((((sg (ix (x12 + (2 : Int32)))) &&& (255 : Int32)) % (5 : Int32)) >>> ((1 : Int32) &&& 31))), some (.int (0 : Int32)), some (.int (0 : Int32)), none, none, none, none, none, none, none, none, none] [.int m10, .int ((((sg (ix (x12 + (3 : Int32)))) &&& (255 : Int32)) &&& (3 : Int32)) ||| ((((sg (ix (x12 + (3 : Int32)))) &&& (255 : Int32)) &&& (12 : Int32)) <<< ((2 : Int32) &&& 31)))] (W1 s) Q := by
      intro m10 em10
      have h12 := h9 m10 em10
      refine wpl_sl (n := 4) (pc' := 146) (ls' := [some (.ref 0), some (.ref 1), some (.int x2), some (.int x3), some (.int x4), some (.int x5), some (.int x6), some (.int x7), some (.long x8), none, some (.long x10), none, some (.int x12), some (.int ((sg (ix x12)) &&& (7 : Int32))), some (.int ((sg (ix (x12 + (1 : Int32)))) &&& (255 : Int32))), some (.int ((sg (ix (x12 + (2 : Int32)))) &&& (255 : Int32))), some (.int ((sg (ix (x12 + (3 : Int32)))) &&& (255 : Int32))), some (.int (((sg (ix (x12 + (1 : Int32)))) &&& (255 : Int32)) % (3 : Int32))), some (.int (((sg (ix (x12 + (2 : Int32)))) &&& (255 : Int32)) % (5 : Int32))), some (.int ((((sg (ix (x12 + (2 : Int32)))) &&& (255 : Int32)) % (5 : Int32)) >>> ((1 : Int32) &&& 31))), some (.int (0 : Int32)), some (.int (0 : Int32)), some (.int (((((sg (ix (x12 + (3 : Int32)))) &&& (255 : Int32)) &&& (3 : Int32)) ||| ((((sg (ix (x12 + (3 : Int32)))) &&& (255 : Int32)) &&& (12 : Int32)) <<< ((2 : Int32) &&& 31))) ||| m10)), none, none, none, none, none, none, none, none]) (st' := [.int (4 : Int32), .int (((sg (ix (x12 + (2 : Int32)))) &&& (255 : Int32)) % (5 : Int32))]) rfl ?_
      have hm14 : ∀ m13, m13 = (if (((sg (ix (x12 + (2 : Int32)))) &&& (255 : Int32)) % (5 : Int32)) < (4 : Int32) then (if ((x2 >>> ((((sg (ix (x12 + (2 : Int32)))) &&& (255 : Int32)) % (5 : Int32)) &&& 31)) &&& (1 : Int32)) = (0 : Int32) then (0 : Int32) else (1 : Int32)) else (0 : Int32)) → wplI PP QQ (some (N, sg)) 0 lm0 163 [some (.ref 0), some (.ref 1), some (.int x2), some (.int x3), some (.int x4), some (.int x5), some (.int x6), some (.int x7), some (.long x8), none, some (.long x10), none, some (.int x12), some (.int ((sg (ix x12)) &&& (7 : Int32))), some (.int ((sg (ix (x12 + (1 : Int32)))) &&& (255 : Int32))), some (.int ((sg (ix (x12 + (2 : Int32)))) &&& (255 : Int32))), some (.int ((sg (ix (x12 + (3 : Int32)))) &&& (255 : Int32))), some (.int (((sg (ix (x12 + (1 : Int32)))) &&& (255 : Int32)) % (3 : Int32))), some (.int (((sg (ix (x12 + (2 : Int32)))) &&& (255 : Int32)) % (5 : Int32))), some (.int ((((sg (ix (x12 + (2 : Int32)))) &&& (255 : Int32)) % (5 : Int32)) >>> ((1 : Int32) &&& 31))), some (.int (0 : Int32)), some (.int (0 : Int32)), some (.int (((((sg (ix (x12 + (3 : Int32)))) &&& (255 : Int32)) &&& (3 : Int32)) ||| ((((sg (ix (x12 + (3 : Int32)))) &&& (255 : Int32)) &&& (12 : Int32)) <<< ((2 : Int32) &&& 31))) ||| m10)), none, none, none, none, none, none, none, none] [.int m13] (W1 s) Q := by
        intro m13 em13
        have h15 := h12 m13 em13
        exact wpl_lle (ls := [some (.ref 0), some (.ref 1), some (.int x2), some (.int x3), some (.int x4), some (.int x5), some (.int x6), some (.int x7), some (.long x8), none, some (.long x10), none, some (.int x12), some (.int ((sg (ix x12)) &&& (7 : Int32))), none, some (.int ((sg (ix (x12 + (2 : Int32)))) &&& (255 : Int32))), some (.int ((sg (ix (x12 + (3 : Int32)))) &&& (255 : Int32))), some (.int (((sg (ix (x12 + (1 : Int32)))) &&& (255 : Int32)) % (3 : Int32))), some (.int (((sg (ix (x12 + (2 : Int32)))) &&& (255 : Int32)) % (5 : Int32))), some (.int ((((sg (ix (x12 + (2 : Int32)))) &&& (255 : Int32)) % (5 : Int32)) >>> ((1 : Int32) &&& 31))), some (.int (0 : Int32)), none, some (.int (((((sg (ix (x12 + (3 : Int32)))) &&& (255 : Int32)) &&& (3 : Int32)) ||| ((((sg (ix (x12 + (3 : Int32)))) &&& (255 : Int32)) &&& (12 : Int32)) <<< ((2 : Int32) &&& 31))) ||| m10)), none, none, none, none, none, none, none, none]) ⟨rfl, rfl, rfl, rfl, rfl, rfl, rfl, rfl, rfl, rfl, rfl, rfl, rfl, rfl, rfl, rfl, rfl, rfl, rfl, trivial⟩ h15
      refine wpl_icmp (a := 162) (b := 149) rfl (by decide) rfl rfl (wpl_br (p := (((sg (ix (x12 + (2 : Int32)))) &&& (255 : Int32)) % (5 : Int32)) < (4 : Int32)) ⟨fun hc16 => ?_, fun hc16 => ?_⟩)
      · refine wpl_sl (n := 5) (pc' := 155) (ls' := [some (.ref 0), some (.ref 1), some (.int x2), some (.int x3), some (.int x4), some (.int x5), some (.int x6), some (.int x7), some (.long x8), none, some (.long x10), none, some (.int x12), some (.int ((sg (ix x12)) &&& (7 : Int32))), some (.int ((sg (ix (x12 + (1 : Int32)))) &&& (255 : Int32))), some (.int ((sg (ix (x12 + (2 : Int32)))) &&& (255 : Int32))), some (.int ((sg (ix (x12 + (3 : Int32)))) &&& (255 : Int32))), some (.int (((sg (ix (x12 + (1 : Int32)))) &&& (255 : Int32)) % (3 : Int32))), some (.int (((sg (ix (x12 + (2 : Int32)))) &&& (255 : Int32)) % (5 : Int32))), some (.int ((((sg (ix (x12 + (2 : Int32)))) &&& (255 : Int32)) % (5 : Int32)) >>> ((1 : Int32) &&& 31))), some (.int (0 : Int32)), some (.int (0 : Int32)), some (.int (((((sg (ix (x12 + (3 : Int32)))) &&& (255 : Int32)) &&& (3 : Int32)) ||| ((((sg (ix (x12 + (3 : Int32)))) &&& (255 : Int32)) &&& (12 : Int32)) <<< ((2 : Int32) &&& 31))) ||| m10)), none, none, none, none, none, none, none, none]) (st' := [.int ((x2 >>> ((((sg (ix (x12 + (2 : Int32)))) &&& (255 : Int32)) % (5 : Int32)) &&& 31)) &&& (1 : Int32))]) rfl ?_
        refine wpl_if (a := 162) (b := 158) rfl (by decide) rfl rfl (wpl_br (p := ((x2 >>> ((((sg (ix (x12 + (2 : Int32)))) &&& (255 : Int32)) % (5 : Int32)) &&& 31)) &&& (1 : Int32)) = (0 : Int32)) ⟨fun hc17 => ?_, fun hc17 => ?_⟩)
        · refine wpl_sl (n := 1) (pc' := 163) (ls' := [some (.ref 0), some (.ref 1), some (.int x2), some (.int x3), some (.int x4), some (.int x5), some (.int x6), some (.int x7), some (.long x8), none, some (.long x10), none, some (.int x12), some (.int ((sg (ix x12)) &&& (7 : Int32))), some (.int ((sg (ix (x12 + (1 : Int32)))) &&& (255 : Int32))), some (.int ((sg (ix (x12 + (2 : Int32)))) &&& (255 : Int32))), some (.int ((sg (ix (x12 + (3 : Int32)))) &&& (255 : Int32))), some (.int (((sg (ix (x12 + (1 : Int32)))) &&& (255 : Int32)) % (3 : Int32))), some (.int (((sg (ix (x12 + (2 : Int32)))) &&& (255 : Int32)) % (5 : Int32))), some (.int ((((sg (ix (x12 + (2 : Int32)))) &&& (255 : Int32)) % (5 : Int32)) >>> ((1 : Int32) &&& 31))), some (.int (0 : Int32)), some (.int (0 : Int32)), some (.int (((((sg (ix (x12 + (3 : Int32)))) &&& (255 : Int32)) &&& (3 : Int32)) ||| ((((sg (ix (x12 + (3 : Int32)))) &&& (255 : Int32)) &&& (12 : Int32)) <<< ((2 : Int32) &&& 31))) ||| m10)), none, none, none, none, none, none, none, none]) (st' := [.int (0 : Int32)]) rfl ?_
          first | exact hm14 _ (by simp only [if_pos hc16, if_pos hc17]) | exact wpl_lle (by repeat (first | exact trivial | refine ⟨rfl, ?_⟩)) (hm14 _ (by simp only [if_pos hc16, if_pos hc17]))
        · refine wpl_sl (n := 2) (pc' := 163) (ls' := [some (.ref 0), some (.ref 1), some (.int x2), some (.int x3), some (.int x4), some (.int x5), some (.int x6), some (.int x7), some (.long x8), none, some (.long x10), none, some (.int x12), some (.int ((sg (ix x12)) &&& (7 : Int32))), some (.int ((sg (ix (x12 + (1 : Int32)))) &&& (255 : Int32))), some (.int ((sg (ix (x12 + (2 : Int32)))) &&& (255 : Int32))), some (.int ((sg (ix (x12 + (3 : Int32)))) &&& (255 : Int32))), some (.int (((sg (ix (x12 + (1 : Int32)))) &&& (255 : Int32)) % (3 : Int32))), some (.int (((sg (ix (x12 + (2 : Int32)))) &&& (255 : Int32)) % (5 : Int32))), some (.int ((((sg (ix (x12 + (2 : Int32)))) &&& (255 : Int32)) % (5 : Int32)) >>> ((1 : Int32) &&& 31))), some (.int (0 : Int32)), some (.int (0 : Int32)), some (.int (((((sg (ix (x12 + (3 : Int32)))) &&& (255 : Int32)) &&& (3 : Int32)) ||| ((((sg (ix (x12 + (3 : Int32)))) &&& (255 : Int32)) &&& (12 : Int32)) <<< ((2 : Int32) &&& 31))) ||| m10)), none, none, none, none, none, none, none, none]) (st' := [.int (1 : Int32)]) rfl ?_
          first | exact hm14 _ (by simp only [if_pos hc16, if_neg hc17]) | exact wpl_lle (by repeat (first | exact trivial | refine ⟨rfl, ?_⟩)) (hm14 _ (by simp only [if_pos hc16, if_neg hc17]))
      · refine wpl_sl (n := 1) (pc' := 163) (ls' := [some (.ref 0), some (.ref 1), some (.int x2), some (.int x3), some (.int x4), some (.int x5), some (.int x6), some (.int x7), some (.long x8), none, some (.long x10), none, some (.int x12), some (.int ((sg (ix x12)) &&& (7 : Int32))), some (.int ((sg (ix (x12 + (1 : Int32)))) &&& (255 : Int32))), some (.int ((sg (ix (x12 + (2 : Int32)))) &&& (255 : Int32))), some (.int ((sg (ix (x12 + (3 : Int32)))) &&& (255 : Int32))), some (.int (((sg (ix (x12 + (1 : Int32)))) &&& (255 : Int32)) % (3 : Int32))), some (.int (((sg (ix (x12 + (2 : Int32)))) &&& (255 : Int32)) % (5 : Int32))), some (.int ((((sg (ix (x12 + (2 : Int32)))) &&& (255 : Int32)) % (5 : Int32)) >>> ((1 : Int32) &&& 31))), some (.int (0 : Int32)), some (.int (0 : Int32)), some (.int (((((sg (ix (x12 + (3 : Int32)))) &&& (255 : Int32)) &&& (3 : Int32)) ||| ((((sg (ix (x12 + (3 : Int32)))) &&& (255 : Int32)) &&& (12 : Int32)) <<< ((2 : Int32) &&& 31))) ||| m10)), none, none, none, none, none, none, none, none]) (st' := [.int (0 : Int32)]) rfl ?_
        first | exact hm14 _ (by simp only [if_neg hc16]) | exact wpl_lle (by repeat (first | exact trivial | refine ⟨rfl, ?_⟩)) (hm14 _ (by simp only [if_neg hc16]))
    refine wpl_icmp (a := 139) (b := 134) rfl (by decide) rfl rfl (wpl_br (p := ((sg (ix (x12 + (3 : Int32)))) &&& (255 : Int32)) < (248 : Int32)) ⟨fun hc18 => ?_, fun hc18 => ?_⟩)
    · refine wpl_sl (n := 1) (pc' := 140) (ls' := [some (.ref 0), some (.ref 1), some (.int x2), some (.int x3), some (.int x4), some (.int x5), some (.int x6), some (.int x7), some (.long x8), none, some (.long x10), none, some (.int x12), some (.int ((sg (ix x12)) &&& (7 : Int32))), some (.int ((sg (ix (x12 + (1 : Int32)))) &&& (255 : Int32))), some (.int ((sg (ix (x12 + (2 : Int32)))) &&& (255 : Int32))), some (.int ((sg (ix (x12 + (3 : Int32)))) &&& (255 : Int32))), some (.int (((sg (ix (x12 + (1 : Int32)))) &&& (255 : Int32)) % (3 : Int32))), some (.int (((sg (ix (x12 + (2 : Int32)))) &&& (255 : Int32)) % (5 : Int32))), some (.int ((((sg (ix (x12 + (2 : Int32)))) &&& (255 : Int32)) % (5 : Int32)) >>> ((1 : Int32) &&& 31))), some (.int (0 : Int32)), some (.int (0 : Int32)), none, none, none, none, none, none, none, none, none]) (st' := [.int (0 : Int32), .int ((((sg (ix (x12 + (3 : Int32)))) &&& (255 : Int32)) &&& (3 : Int32)) ||| ((((sg (ix (x12 + (3 : Int32)))) &&& (255 : Int32)) &&& (12 : Int32)) <<< ((2 : Int32) &&& 31)))]) rfl ?_
      first | exact hm11 _ (by simp only [if_pos hc18]) | exact wpl_lle (by repeat (first | exact trivial | refine ⟨rfl, ?_⟩)) (hm11 _ (by simp only [if_pos hc18]))
    · refine wpl_sl (n := 2) (pc' := 140) (ls' := [some (.ref 0), some (.ref 1), some (.int x2), some (.int x3), some (.int x4), some (.int x5), some (.int x6), some (.int x7), some (.long x8), none, some (.long x10), none, some (.int x12), some (.int ((sg (ix x12)) &&& (7 : Int32))), some (.int ((sg (ix (x12 + (1 : Int32)))) &&& (255 : Int32))), some (.int ((sg (ix (x12 + (2 : Int32)))) &&& (255 : Int32))), some (.int ((sg (ix (x12 + (3 : Int32)))) &&& (255 : Int32))), some (.int (((sg (ix (x12 + (1 : Int32)))) &&& (255 : Int32)) % (3 : Int32))), some (.int (((sg (ix (x12 + (2 : Int32)))) &&& (255 : Int32)) % (5 : Int32))), some (.int ((((sg (ix (x12 + (2 : Int32)))) &&& (255 : Int32)) % (5 : Int32)) >>> ((1 : Int32) &&& 31))), some (.int (0 : Int32)), some (.int (0 : Int32)), none, none, none, none, none, none, none, none, none]) (st' := [.int (64 : Int32), .int ((((sg (ix (x12 + (3 : Int32)))) &&& (255 : Int32)) &&& (3 : Int32)) ||| ((((sg (ix (x12 + (3 : Int32)))) &&& (255 : Int32)) &&& (12 : Int32)) <<< ((2 : Int32) &&& 31)))]) rfl ?_
      first | exact hm11 _ (by simp only [if_neg hc18]) | exact wpl_lle (by repeat (first | exact trivial | refine ⟨rfl, ?_⟩)) (hm11 _ (by simp only [if_neg hc18]))
  · have h5 := h.2 hc3
    refine wpl_sl (n := 1) (pc' := 1161) (ls' := [some (.ref 0), some (.ref 1), some (.int x2), some (.int x3), some (.int x4), some (.int x5), some (.int x6), some (.int x7), some (.long x8), none, some (.long x10), none, some (.int x12), none, none, none, none, none, none, none, none, none, none, none, none, none, none, none, none, none, none]) (st' := [.int (1 : Int32)]) rfl ?_
    exact wpl_ret rfl rfl rfl ⟨(1 : Int32), rfl, h5⟩
theorem l0_163 (N : Nat) (sg : Nat → Int32) (x2 : Int32) (x3 : Int32) (x4 : Int32) (x5 : Int32) (x6 : Int32) (x7 : Int32) (x8 : Int64) (x10 : Int64) (x12 : Int32) (x13 : Int32) (x15 : Int32) (x16 : Int32) (x17 : Int32) (x18 : Int32) (x19 : Int32) (x20 : Int32) (x22 : Int32) (y0 : Int32)  (Q : Int32 → Wd → Prop) (h : ∀ m19, m19 = (if x19 < (2 : Int32) then ((x3 >>> ((x19 * (4 : Int32)) &&& 31)) &&& (15 : Int32)) else (0 : Int32)) → (lalI PP QQ (some (N, sg)) 3 [.int x2, .int x3, .int ((2 : Int32) * x19)] (W1 s) (fun v23 w22 => ∃ s25, w22 = W1 s25 ∧ (lalI PP QQ (some (N, sg)) 3 [.int x2, .int x3, .int (((2 : Int32) * x19) + (1 : Int32))] (W1 s25) (fun v27 w26 => ∃ s29, w26 = W1 s29 ∧ (((x13 = (0 : Int32)) → calI PP 15 11 [.ref 0] s29 (fun v34 s33 => ∀ m36, m36 = (if (x2 &&& (3 : Int32)) = (0 : Int32) then (0 : Int32) else (if (x2 &&& (12 : Int32)) = (0 : Int32) then (1 : Int32) else (-8 : Int32))) → (∀ m39, m39 = (if m36 < (0 : Int32) then x2 else (x2 ||| ((3 : Int32) <<< (((2 : Int32) * m36) &&& 31)))) → ∀ m40, m40 = (if m36 < (0 : Int32) then x3 else (x3 &&& (((15 : Int32) <<< (((4 : Int32) * m36) &&& 31)) ^^^ (-1 : Int32)))) → ∀ m41, m41 = (if m36 < (0 : Int32) then x8 else (x8 &&& (((4294967295 : Int64) <<< ((((32 : Int32) * m36)).toInt64 &&& 63)) ^^^ (-1 : Int64)))) → (wplI PP QQ (some (N, sg)) 0 lm0 1126 [some (.ref 0), some (.ref 1), some (.int m39), some (.int m40), some (.int x4), some (.int x5), some (.int x6), some (.int x7), some (.long m41), none, some (.long x10), none, some (.int x12), none, none, none, none, none, none, none, some (.int m36), some (.int v34), none, none, none, none, none, none, none, none, none] [] (W1 s33) Q)))) ∧ (¬ (x13 = (0 : Int32)) → ((x13 = (1 : Int32)) → inb N (x12 + (3 : Int32)) ∧ calI PP 16 11 [.ref 0, .int x18, .int (sg (ix (x12 + (3 : Int32))))] s29 (fun v52 s51 => ((y0 = (0 : Int32)) → wplI PP QQ (some (N, sg)) 0 lm0 325 [some (.ref 0), some (.ref 1), some (.int x2), some (.int x3), some (.int x4), some (.int x5), some (.int x6), some (.int x7), some (.long x8), none, some (.long x10), none, some (.int x12), none, none, none, none, none, none, none, none, some (.int v52), none, none, none, none, none, none, none, none, none] [] (W1 s51) Q) ∧ (¬ (y0 = (0 : Int32)) → (((x18 &&& (1 : Int32)) = (0 : Int32)) → wplI PP QQ (some (N, sg)) 0 lm0 325 [some (.ref 0), some (.ref 1), some (.int x2), some (.int x3), some (.int x4), some (.int x5), some (.int x6), some (.int x7), some (.long x8), none, some (.long x10), none, some (.int x12), none, none, none, none, none, none, none, none, some (.int v52), none, none, none, none, none, none, none, none, none] [] (W1 s51) Q) ∧ (¬ ((x18 &&& (1 : Int32)) = (0 : Int32)) → ((((x2 >>> ((x18 - (1 : Int32)) &&& 31)) &&& (1 : Int32)) = (0 : Int32)) → wplI PP QQ (some (N, sg)) 0 lm0 1126 [some (.ref 0), some (.ref 1), some (.int x2), some (.int x3), some (.int x4), some (.int x5), some (.int x6), some (.int x7), some (.long x8), none, some (.long x10), none, some (.int x12), none, none, none, none, none, none, none, some (.int (-4 : Int32)), some (.int v52), none, none, none, none, none, none, none, none, none] [] (W1 s51) Q) ∧ (¬ (((x2 >>> ((x18 - (1 : Int32)) &&& 31)) &&& (1 : Int32)) = (0 : Int32)) → ((m19 = (4 : Int32)) → wplI PP QQ (some (N, sg)) 0 lm0 1126 [some (.ref 0), some (.ref 1), some (.int x2), some (.int x3), some (.int x4), some (.int x5), some (.int x6), some (.int x7), some (.long x8), none, some (.long x10), none, some (.int x12), none, none, none, none, none, none, none, some (.int (-2 : Int32)), some (.int v52), none, none, none, none, none, none, none, none, none] [] (W1 s51) Q) ∧ (¬ (m19 = (4 : Int32)) → lalI PP QQ (some (N, sg)) 5 [.long x10, .int x4, .int x2, .int (x3 + ((1 : Int32) <<< ((x19 * (4 : Int32)) &&& 31))), .int x19, .int v23, .int v27] (W1 s51) (fun v67 w66 => ∃ s69, w66 = W1 s69 ∧ (wplI PP QQ (some (N, sg)) 0 lm0 1126 [some (.ref 0), some (.ref 1), some (.int x2), some (.int (x3 + ((1 : Int32) <<< ((x19 * (4 : Int32)) &&& 31)))), some (.int v67), some (.int x5), some (.int x6), some (.int x7), some (.long (x8 ||| ((Int32.toInt64 x16) <<< ((((x19 * (32 : Int32)) + (m19 * (8 : Int32)))).toInt64 &&& 63)))), none, some (.long x10), none, some (.int x12), none, none, none, none, none, none, none, some (.int x20), some (.int v52), none, none, none, none, none, none, none, none, none] [] (W1 s69) Q)))))))) ∧ (¬ (x13 = (1 : Int32)) → ((x13 = (2 : Int32)) → calI PP 17 11 [.ref 0, .int x18] s29 (fun v74 s73 => ((y0 = (0 : Int32)) → wplI PP QQ (some (N, sg)) 0 lm0 438 [some (.ref 0), some (.ref 1), some (.int x2), some (.int x3), some (.int x4), some (.int x5), some (.int x6), some (.int x7), some (.long x8), none, some (.long x10), none, some (.int x12), none, none, none, none, none, none, none, none, some (.int v74), none, none, none, none, none, none, none, none, none] [] (W1 s73) Q) ∧ (¬ (y0 = (0 : Int32)) → (((x18 &&& (1 : Int32)) = (1 : Int32)) → wplI PP QQ (some (N, sg)) 0 lm0 438 [some (.ref 0), some (.ref 1), some (.int x2), some (.int x3), some (.int x4), some (.int x5), some (.int x6), some (.int x7), some (.long x8), none, some (.long x10), none, some (.int x12), none, none, none, none, none, none, none, none, some (.int v74), none, none, none, none, none, none, none, none, none] [] (W1 s73) Q) ∧ (¬ ((x18 &&& (1 : Int32)) = (1 : Int32)) → ((m19 = (0 : Int32)) → ∀ m85, m85 = (if ((x2 >>> ((x18 + (1 : Int32)) &&& 31)) &&& (1 : Int32)) = (0 : Int32) then (-3 : Int32) else (-2 : Int32)) → (wplI PP QQ (some (N, sg)) 0 lm0 1126 [some (.ref 0), some (.ref 1), some (.int x2), some (.int x3), some (.int x4), some (.int x5), some (.int x6), some (.int x7), some (.long x8), none, some (.long x10), none, some (.int x12), none, none, none, none, none, none, none, some (.int m85), some (.int v74), none, none, none, none, none, none, none, none, none] [] (W1 s73) Q)) ∧ (¬ (m19 = (0 : Int32)) → lalI PP QQ (some (N, sg)) 5 [.long x10, .int x4, .int x2, .int (x3 - ((1 : Int32) <<< ((x19 * (4 : Int32)) &&& 31))), .int x19, .int v23, .int v27] (W1 s73) (fun v90 w89 => ∃ s92, w89 = W1 s92 ∧ (wplI PP QQ (some (N, sg)) 0 lm0 1126 [some (.ref 0), some (.ref 1), some (.int x2), some (.int (x3 - ((1 : Int32) <<< ((x19 * (4 : Int32)) &&& 31)))), some (.int v90), some (.int x5), some (.int x6), some (.int x7), some (.long ((x8 &&& (((4294967295 : Int64) <<< (((x19 * (32 : Int32))).toInt64 &&& 63)) ^^^ (-1 : Int64))) ||| ((XT.ushrL ((XT.ushrL x8 (x19 * (32 : Int32))) &&& (4294967295 : Int64)) (8 : Int32)) <<< (((x19 * (32 : Int32))).toInt64 &&& 63)))), none, some (.long x10), none, some (.int x12), none, none, none, none, none, none, none, some (.int (Int64.toInt32 (((XT.ushrL x8 (x19 * (32 : Int32))) &&& (4294967295 : Int64)) &&& (255 : Int64)))), some (.int v74), none, none, none, none, none, none, none, none, none] [] (W1 s92) Q))))))) ∧ (¬ (x13 = (2 : Int32)) → ((x13 = (3 : Int32)) → calI PP 18 11 [.ref 0, .int x18] s29 (fun v97 s96 => ((y0 = (0 : Int32)) → wplI PP QQ (some (N, sg)) 0 lm0 1126 [some (.ref 0), some (.ref 1), some (.int x2), some (.int x3), some (.int x4), some (.int x5), some (.int x6), some (.int x7), some (.long x8), none, some (.long x10), none, some (.int x12), none, none, none, none, none, none, none, some (.int (-1 : Int32)), some (.int v97), none, none, none, none, none, none, none, none, none] [] (W1 s96) Q) ∧ (¬ (y0 = (0 : Int32)) → lalI PP QQ (some (N, sg)) 5 [.long (x10 &&& ((((255 : Int64) <<< (((x18 * (8 : Int32))).toInt64 &&& 63)) ^^^ (-1 : Int64)) &&& (((255 : Int64) <<< ((((x18 + (4 : Int32)) * (8 : Int32))).toInt64 &&& 63)) ^^^ (-1 : Int64)))), .int (x4 &&& ((((15 : Int32) <<< ((x18 * (4 : Int32)) &&& 31)) ^^^ (-1 : Int32)) &&& (((15 : Int32) <<< (((x18 + (4 : Int32)) * (4 : Int32)) &&& 31)) ^^^ (-1 : Int32)))), .int (x2 &&& (((1 : Int32) <<< (x18 &&& 31)) ^^^ (-1 : Int32))), .int x3, .int x19, .int v23, .int v27] (W1 s96) (fun v103 w102 => ∃ s105, w102 = W1 s105 ∧ (wplI PP QQ (some (N, sg)) 0 lm0 1126 [some (.ref 0), some (.ref 1), some (.int (x2 &&& (((1 : Int32) <<< (x18 &&& 31)) ^^^ (-1 : Int32)))), some (.int x3), some (.int v103), some (.int x5), some (.int x6), some (.int x7), some (.long x8), none, some (.long (x10 &&& ((((255 : Int64) <<< (((x18 * (8 : Int32))).toInt64 &&& 63)) ^^^ (-1 : Int64)) &&& (((255 : Int64) <<< ((((x18 + (4 : Int32)) * (8 : Int32))).toInt64 &&& 63)) ^^^ (-1 : Int64))))), none, some (.int x12), none, none, none, none, none, none, none, some (.int x20), some (.int v97), none, none, none, none, none, none, none, none, none] [] (W1 s105) Q))))) ∧ (¬ (x13 = (3 : Int32)) → (((6 : Int32) < x13) → calI PP 22 11 [.ref 0, .int x17, .int (x15 &&& (7 : Int32))] s29 (fun v110 s109 => ((x17 < (2 : Int32)) → (((x15 &&& (7 : Int32)) < (1 : Int32)) → wplI PP QQ (some (N, sg)) 0 lm0 971 [some (.ref 0), some (.ref 1), some (.int x2), some (.int x3), some (.int x4), some (.int x5), some (.int x6), some (.int x7), some (.long x8), none, some (.long x10), none, some (.int x12), none, none, none, none, none, none, none, none, some (.int v110), none, none, none, none, none, none, none, none, none] [] (W1 s109) Q) ∧ (¬ ((x15 &&& (7 : Int32)) < (1 : Int32)) → wplI PP QQ (some (N, sg)) 0 lm0 987 [some (.ref 0), some (.ref 1), some (.int x2), some (.int x3), some (.int x4), none, some (.int (0 : Int32)), some (.int (0 : Int32)), some (.long x8), none, some (.long x10), none, some (.int x12), none, none, none, none, some (.int x17), none, none, some (.int x20), some (.int v110), none, none, none, none, none, some (.int (x15 &&& (7 : Int32))), some (.int (0 : Int32)), none, none] [] (W1 s109) Q)) ∧ (¬ (x17 < (2 : Int32)) → wplI PP QQ (some (N, sg)) 0 lm0 971 [some (.ref 0), some (.ref 1), some (.int x2), some (.int x3), some (.int x4), some (.int x5), some (.int x6), some (.int x7), some (.long x8), none, some (.long x10), none, some (.int x12), none, none, none, none, none, none, none, none, some (.int v110), none, none, none, none, none, none, none, none, none] [] (W1 s109) Q))) ∧ (¬ ((6 : Int32) < x13) → ∀ m118, m118 = (if x17 < (2 : Int32) then (if x18 < (4 : Int32) then ((XT.ushrL x10 (((x17 * (4 : Int32)) + x18) * (8 : Int32))) &&& (255 : Int64)) else (0 : Int64)) else (0 : Int64)) → (wplI PP QQ (some (N, sg)) 0 lm0 712 [some (.ref 0), some (.ref 1), some (.int x2), some (.int x3), some (.int x4), some (.int x5), some (.int x6), some (.int x7), some (.long x8), none, some (.long x10), none, some (.int x12), some (.int x13), none, none, none, some (.int x17), some (.int x18), none, some (.int x20), none, some (.int x22), some (.int y0), none, none, none, some (.int ((x17 * (4 : Int32)) + x18)), none, none, none] [.long m118] (W1 s29) Q)))))))))))) : wplI PP QQ (some (N, sg)) 0 lm0 163 [some (.ref 0), some (.ref 1), some (.int x2), some (.int x3), some (.int x4), some (.int x5), some (.int x6), some (.int x7), some (.long x8), none, some (.long x10), none, some (.int x12), some (.int x13), none, some (.int x15), some (.int x16), some (.int x17), some (.int x18), some (.int x19), some (.int x20), none, some (.int x22), none, none, none, none, none, none, none, none] [.int y0] (W1 s) Q := by
  refine wpl_sl (n := 3) (pc' := 168) (ls' := [some (.ref 0), some (.ref 1), some (.int x2), some (.int x3), some (.int x4), some (.int x5), some (.int x6), some (.int x7), some (.long x8), none, some (.long x10), none, some (.int x12), some (.int x13), none, some (.int x15), some (.int x16), some (.int x17), some (.int x18), some (.int x19), some (.int x20), none, some (.int x22), some (.int y0), none, none, none, none, none, none, none]) (st' := [.int (2 : Int32), .int x19]) rfl ?_
  have hm20 : ∀ m19, m19 = (if x19 < (2 : Int32) then ((x3 >>> ((x19 * (4 : Int32)) &&& 31)) &&& (15 : Int32)) else (0 : Int32)) → wplI PP QQ (some (N, sg)) 0 lm0 184 [some (.ref 0), some (.ref 1), some (.int x2), some (.int x3), some (.int x4), some (.int x5), some (.int x6), some (.int x7), some (.long x8), none, some (.long x10), none, some (.int x12), some (.int x13), none, some (.int x15), some (.int x16), some (.int x17), some (.int x18), some (.int x19), some (.int x20), none, some (.int x22), some (.int y0), none, none, none, none, none, none, none] [.int m19] (W1 s) Q := by
    intro m19 em19
    have h21 := h m19 em19
    refine wpl_sl (n := 6) (pc' := 192) (ls' := [some (.ref 0), some (.ref 1), some (.int x2), some (.int x3), some (.int x4), some (.int x5), some (.int x6), some (.int x7), some (.long x8), none, some (.long x10), none, some (.int x12), some (.int x13), none, some (.int x15), some (.int x16), some (.int x17), some (.int x18), some (.int x19), some (.int x20), none, some (.int x22), some (.int y0), some (.int m19), none, none, none, none, none, none]) (st' := [.int ((2 : Int32) * x19), .int x3, .int x2]) rfl ?_
    refine wpl_stat (m' := 3) (me' := lm3) (as := [.int x2, .int x3, .int ((2 : Int32) * x19)]) (r := []) rfl rfl rfl rfl rfl ⟨(by first | decide | exact Nat.le_of_ble_eq_true rfl), (by first | decide | exact Nat.le_of_ble_eq_true rfl), (by first | decide | exact Nat.le_of_ble_eq_true rfl), (by first | decide | exact Nat.le_of_ble_eq_true rfl), rfl⟩ (lal_I (lalI.mono h21 fun v23 w22 hh => ?_))
    obtain ⟨s25, rfl, h24⟩ := hh
    refine wpl_sl (n := 8) (pc' := 205) (ls' := [some (.ref 0), some (.ref 1), some (.int x2), some (.int x3), some (.int x4), some (.int x5), some (.int x6), some (.int x7), some (.long x8), none, some (.long x10), none, some (.int x12), some (.int x13), none, some (.int x15), some (.int x16), some (.int x17), some (.int x18), some (.int x19), some (.int x20), none, some (.int x22), some (.int y0), some (.int m19), some (.int v23), none, none, none, none, none]) (st' := [.int (((2 : Int32) * x19) + (1 : Int32)), .int x3, .int x2]) rfl ?_
    refine wpl_stat (m' := 3) (me' := lm3) (as := [.int x2, .int x3, .int (((2 : Int32) * x19) + (1 : Int32))]) (r := []) rfl rfl rfl rfl rfl ⟨(by first | decide | exact Nat.le_of_ble_eq_true rfl), (by first | decide | exact Nat.le_of_ble_eq_true rfl), (by first | decide | exact Nat.le_of_ble_eq_true rfl), (by first | decide | exact Nat.le_of_ble_eq_true rfl), rfl⟩ (lal_I (lalI.mono h24 fun v27 w26 hh => ?_))
    obtain ⟨s29, rfl, h28⟩ := hh
    refine wpl_sl (n := 2) (pc' := 212) (ls' := [some (.ref 0), some (.ref 1), some (.int x2), some (.int x3), some (.int x4), some (.int x5), some (.int x6), some (.int x7), some (.long x8), none, some (.long x10), none, some (.int x12), some (.int x13), none, some (.int x15), some (.int x16), some (.int x17), some (.int x18), some (.int x19), some (.int x20), none, some (.int x22), some (.int y0), some (.int m19), some (.int v23), some (.int v27), none, none, none, none]) (st' := [.int x13]) rfl ?_
    refine wpl_if (a := 293) (b := 215) rfl (by decide) rfl rfl (wpl_br (p := x13 = (0 : Int32)) ⟨fun hc30 => ?_, fun hc30 => ?_⟩)
    · have h31 := h28.1 hc30
      refine wpl_sl (n := 1) (pc' := 216) (ls' := [some (.ref 0), some (.ref 1), some (.int x2), some (.int x3), some (.int x4), some (.int x5), some (.int x6), some (.int x7), some (.long x8), none, some (.long x10), none, some (.int x12), some (.int x13), none, some (.int x15), some (.int x16), some (.int x17), some (.int x18), some (.int x19), some (.int x20), none, some (.int x22), some (.int y0), some (.int m19), some (.int v23), some (.int v27), none, none, none, none]) (st' := [.ref 1]) rfl ?_
      refine wpl_v1 (m' := 15) (me' := cm15) (as := []) (r := []) rfl rfl rfl rfl rfl ⟨by decide, (by first | decide | exact Nat.le_of_ble_eq_true rfl), (by first | decide | exact Nat.le_of_ble_eq_true rfl), rfl⟩ (cal_I (calI.mono h31 fun v34 s33 h35 => ?_))
      refine wpl_sl (n := 4) (pc' := 224) (ls' := [some (.ref 0), some (.ref 1), some (.int x2), some (.int x3), some (.int x4), some (.int x5), some (.int x6), some (.int x7), some (.long x8), none, some (.long x10), none, some (.int x12), some (.int x13), none, some (.int x15), some (.int x16), some (.int x17), some (.int x18), some (.int x19), some (.int x20), some (.int v34), some (.int x22), some (.int y0), some (.int m19), some (.int v23), some (.int v27), none, none, none, none]) (st' := [.int (x2 &&& (3 : Int32))]) rfl ?_
      have hm37 : ∀ m36, m36 = (if (x2 &&& (3 : Int32)) = (0 : Int32) then (0 : Int32) else (if (x2 &&& (12 : Int32)) = (0 : Int32) then (1 : Int32) else (-8 : Int32))) → wplI PP QQ (some (N, sg)) 0 lm0 244 [some (.ref 0), some (.ref 1), some (.int x2), some (.int x3), some (.int x4), some (.int x5), some (.int x6), some (.int x7), some (.long x8), none, some (.long x10), none, some (.int x12), some (.int x13), none, some (.int x15), some (.int x16), some (.int x17), some (.int x18), some (.int x19), some (.int x20), some (.int v34), some (.int x22), some (.int y0), some (.int m19), some (.int v23), some (.int v27), none, none, none, none] [.int m36] (W1 s33) Q := by
        intro m36 em36
        have h38 := h35 m36 em36
        refine wpl_sl (n := 2) (pc' := 248) (ls' := [some (.ref 0), some (.ref 1), some (.int x2), some (.int x3), some (.int x4), some (.int x5), some (.int x6), some (.int x7), some (.long x8), none, some (.long x10), none, some (.int x12), some (.int x13), none, some (.int x15), some (.int x16), some (.int x17), some (.int x18), some (.int x19), some (.int m36), some (.int v34), some (.int x22), some (.int y0), some (.int m19), some (.int v23), some (.int v27), none, none, none, none]) (st' := [.int m36]) rfl ?_
        have hm42 : ∀ m39, m39 = (if m36 < (0 : Int32) then x2 else (x2 ||| ((3 : Int32) <<< (((2 : Int32) * m36) &&& 31)))) → ∀ m40, m40 = (if m36 < (0 : Int32) then x3 else (x3 &&& (((15 : Int32) <<< (((4 : Int32) * m36) &&& 31)) ^^^ (-1 : Int32)))) → ∀ m41, m41 = (if m36 < (0 : Int32) then x8 else (x8 &&& (((4294967295 : Int64) <<< ((((32 : Int32) * m36)).toInt64 &&& 63)) ^^^ (-1 : Int64)))) → wplI PP QQ (some (N, sg)) 0 lm0 1126 [some (.ref 0), some (.ref 1), some (.int m39), some (.int m40), some (.int x4), some (.int x5), some (.int x6), some (.int x7), some (.long m41), none, some (.long x10), none, some (.int x12), some (.int x13), none, some (.int x15), some (.int x16), some (.int x17), some (.int x18), some (.int x19), some (.int m36), some (.int v34), some (.int x22), some (.int y0), some (.int m19), some (.int v23), some (.int v27), none, none, none, none] [] (W1 s33) Q := by
          intro m39 em39 m40 em40 m41 em41
          have h43 := h38 m39 em39 m40 em40 m41 em41
          exact wpl_lle (ls := [some (.ref 0), some (.ref 1), some (.int m39), some (.int m40), some (.int x4), some (.int x5), some (.int x6), some (.int x7), some (.long m41), none, some (.long x10), none, some (.int x12), none, none, none, none, none, none, none, some (.int m36), some (.int v34), none, none, none, none, none, none, none, none, none]) ⟨rfl, rfl, rfl, rfl, rfl, rfl, rfl, rfl, rfl, rfl, rfl, rfl, rfl, trivial⟩ h43
        refine wpl_if (a := 1126) (b := 251) rfl (by decide) rfl rfl (wpl_br (p := m36 < (0 : Int32)) ⟨fun hc44 => ?_, fun hc44 => ?_⟩)
        · first | exact hm42 _ (by simp only [if_pos hc44]) _ (by simp only [if_pos hc44]) _ (by simp only [if_pos hc44]) | exact wpl_lle (by repeat (first | exact trivial | refine ⟨rfl, ?_⟩)) (hm42 _ (by simp only [if_pos hc44]) _ (by simp only [if_pos hc44]) _ (by simp only [if_pos hc44]))
        · refine wpl_sl (n := 5) (pc' := 257) (ls' := [some (.ref 0), some (.ref 1), some (.int x2), some (.int x3), some (.int x4), some (.int x5), some (.int x6), some (.int x7), some (.long x8), none, some (.long x10), none, some (.int x12), some (.int x13), none, some (.int x15), some (.int x16), some (.int x17), some (.int x18), some (.int x19), some (.int m36), some (.int v34), some (.int x22), some (.int y0), some (.int m19), some (.int v23), some (.int v27), none, none, none, none]) (st' := [.int ((2 : Int32) * m36), .int (3 : Int32), .int x2]) rfl ?_
          refine wpl_sl (n := 5) (pc' := 263) (ls' := [some (.ref 0), some (.ref 1), some (.int (x2 ||| ((3 : Int32) <<< (((2 : Int32) * m36) &&& 31)))), some (.int x3), some (.int x4), some (.int x5), some (.int x6), some (.int x7), some (.long x8), none, some (.long x10), none, some (.int x12), some (.int x13), none, some (.int x15), some (.int x16), some (.int x17), some (.int x18), some (.int x19), some (.int m36), some (.int v34), some (.int x22), some (.int y0), some (.int m19), some (.int v23), some (.int v27), none, none, none, none]) (st' := [.int (15 : Int32), .int x3]) rfl ?_
          refine wpl_sl (n := 5) (pc' := 269) (ls' := [some (.ref 0), some (.ref 1), some (.int (x2 ||| ((3 : Int32) <<< (((2 : Int32) * m36) &&& 31)))), some (.int x3), some (.int x4), some (.int x5), some (.int x6), some (.int x7), some (.long x8), none, some (.long x10), none, some (.int x12), some (.int x13), none, some (.int x15), some (.int x16), some (.int x17), some (.int x18), some (.int x19), some (.int m36), some (.int v34), some (.int x22), some (.int y0), some (.int m19), some (.int v23), some (.int v27), none, none, none, none]) (st' := [.int (-1 : Int32), .int ((15 : Int32) <<< (((4 : Int32) * m36) &&& 31)), .int x3]) rfl ?_
          refine wpl_sl (n := 5) (pc' := 277) (ls' := [some (.ref 0), some (.ref 1), some (.int (x2 ||| ((3 : Int32) <<< (((2 : Int32) * m36) &&& 31)))), some (.int (x3 &&& (((15 : Int32) <<< (((4 : Int32) * m36) &&& 31)) ^^^ (-1 : Int32)))), some (.int x4), some (.int x5), some (.int x6), some (.int x7), some (.long x8), none, some (.long x10), none, some (.int x12), some (.int x13), none, some (.int x15), some (.int x16), some (.int x17), some (.int x18), some (.int x19), some (.int m36), some (.int v34), some (.int x22), some (.int y0), some (.int m19), some (.int v23), some (.int v27), none, none, none, none]) (st' := [.long (4294967295 : Int64), .long x8]) rfl ?_
          refine wpl_sl (n := 5) (pc' := 286) (ls' := [some (.ref 0), some (.ref 1), some (.int (x2 ||| ((3 : Int32) <<< (((2 : Int32) * m36) &&& 31)))), some (.int (x3 &&& (((15 : Int32) <<< (((4 : Int32) * m36) &&& 31)) ^^^ (-1 : Int32)))), some (.int x4), some (.int x5), some (.int x6), some (.int x7), some (.long x8), none, some (.long x10), none, some (.int x12), some (.int x13), none, some (.int x15), some (.int x16), some (.int x17), some (.int x18), some (.int x19), some (.int m36), some (.int v34), some (.int x22), some (.int y0), some (.int m19), some (.int v23), some (.int v27), none, none, none, none]) (st' := [.long (-1 : Int64), .long ((4294967295 : Int64) <<< ((((32 : Int32) * m36)).toInt64 &&& 63)), .long x8]) rfl ?_
          refine wpl_sl (n := 4) (pc' := 1126) (ls' := [some (.ref 0), some (.ref 1), some (.int (x2 ||| ((3 : Int32) <<< (((2 : Int32) * m36) &&& 31)))), some (.int (x3 &&& (((15 : Int32) <<< (((4 : Int32) * m36) &&& 31)) ^^^ (-1 : Int32)))), some (.int x4), some (.int x5), some (.int x6), some (.int x7), some (.long (x8 &&& (((4294967295 : Int64) <<< ((((32 : Int32) * m36)).toInt64 &&& 63)) ^^^ (-1 : Int64)))), none, some (.long x10), none, some (.int x12), some (.int x13), none, some (.int x15), some (.int x16), some (.int x17), some (.int x18), some (.int x19), some (.int m36), some (.int v34), some (.int x22), some (.int y0), some (.int m19), some (.int v23), some (.int v27), none, none, none, none]) (st' := []) rfl ?_
          first | exact hm42 _ (by simp only [if_neg hc44]) _ (by simp only [if_neg hc44]) _ (by simp only [if_neg hc44]) | exact wpl_lle (by repeat (first | exact trivial | refine ⟨rfl, ?_⟩)) (hm42 _ (by simp only [if_neg hc44]) _ (by simp only [if_neg hc44]) _ (by simp only [if_neg hc44]))
      refine wpl_if (a := 231) (b := 227) rfl (by decide) rfl rfl (wpl_br (p := (x2 &&& (3 : Int32)) = (0 : Int32)) ⟨fun hc45 => ?_, fun hc45 => ?_⟩)
      · refine wpl_sl (n := 2) (pc' := 244) (ls' := [some (.ref 0), some (.ref 1), some (.int x2), some (.int x3), some (.int x4), some (.int x5), some (.int x6), some (.int x7), some (.long x8), none, some (.long x10), none, some (.int x12), some (.int x13), none, some (.int x15), some (.int x16), some (.int x17), some (.int x18), some (.int x19), some (.int x20), some (.int v34), some (.int x22), some (.int y0), some (.int m19), some (.int v23), some (.int v27), none, none, none, none]) (st' := [.int (0 : Int32)]) rfl ?_
        first | exact hm37 _ (by simp only [if_pos hc45]) | exact wpl_lle (by repeat (first | exact trivial | refine ⟨rfl, ?_⟩)) (hm37 _ (by simp only [if_pos hc45]))
      · refine wpl_sl (n := 3) (pc' := 235) (ls' := [some (.ref 0), some (.ref 1), some (.int x2), some (.int x3), some (.int x4), some (.int x5), some (.int x6), some (.int x7), some (.long x8), none, some (.long x10), none, some (.int x12), some (.int x13), none, some (.int x15), some (.int x16), some (.int x17), some (.int x18), some (.int x19), some (.int x20), some (.int v34), some (.int x22), some (.int y0), some (.int m19), some (.int v23), some (.int v27), none, none, none, none]) (st' := [.int (x2 &&& (12 : Int32))]) rfl ?_
        refine wpl_if (a := 242) (b := 238) rfl (by decide) rfl rfl (wpl_br (p := (x2 &&& (12 : Int32)) = (0 : Int32)) ⟨fun hc46 => ?_, fun hc46 => ?_⟩)
        · refine wpl_sl (n := 2) (pc' := 244) (ls' := [some (.ref 0), some (.ref 1), some (.int x2), some (.int x3), some (.int x4), some (.int x5), some (.int x6), some (.int x7), some (.long x8), none, some (.long x10), none, some (.int x12), some (.int x13), none, some (.int x15), some (.int x16), some (.int x17), some (.int x18), some (.int x19), some (.int x20), some (.int v34), some (.int x22), some (.int y0), some (.int m19), some (.int v23), some (.int v27), none, none, none, none]) (st' := [.int (1 : Int32)]) rfl ?_
          first | exact hm37 _ (by simp only [if_neg hc45, if_pos hc46]) | exact wpl_lle (by repeat (first | exact trivial | refine ⟨rfl, ?_⟩)) (hm37 _ (by simp only [if_neg hc45, if_pos hc46]))
        · refine wpl_sl (n := 1) (pc' := 244) (ls' := [some (.ref 0), some (.ref 1), some (.int x2), some (.int x3), some (.int x4), some (.int x5), some (.int x6), some (.int x7), some (.long x8), none, some (.long x10), none, some (.int x12), some (.int x13), none, some (.int x15), some (.int x16), some (.int x17), some (.int x18), some (.int x19), some (.int x20), some (.int v34), some (.int x22), some (.int y0), some (.int m19), some (.int v23), some (.int v27), none, none, none, none]) (st' := [.int (-8 : Int32)]) rfl ?_
          first | exact hm37 _ (by simp only [if_neg hc45, if_neg hc46]) | exact wpl_lle (by repeat (first | exact trivial | refine ⟨rfl, ?_⟩)) (hm37 _ (by simp only [if_neg hc45, if_neg hc46]))
    · have h32 := h28.2 hc30
      refine wpl_sl (n := 2) (pc' := 296) (ls' := [some (.ref 0), some (.ref 1), some (.int x2), some (.int x3), some (.int x4), some (.int x5), some (.int x6), some (.int x7), some (.long x8), none, some (.long x10), none, some (.int x12), some (.int x13), none, some (.int x15), some (.int x16), some (.int x17), some (.int x18), some (.int x19), some (.int x20), none, some (.int x22), some (.int y0), some (.int m19), some (.int v23), some (.int v27), none, none, none, none]) (st' := [.int (1 : Int32), .int x13]) rfl ?_
      refine wpl_icmp (a := 411) (b := 299) rfl (by decide) rfl rfl (wpl_br (p := x13 = (1 : Int32)) ⟨fun hc47 => ?_, fun hc47 => ?_⟩)
      · have h48 := h32.1 hc47
        refine wpl_sl (n := 6) (pc' := 307) (ls' := [some (.ref 0), some (.ref 1), some (.int x2), some (.int x3), some (.int x4), some (.int x5), some (.int x6), some (.int x7), some (.long x8), none, some (.long x10), none, some (.int x12), some (.int x13), none, some (.int x15), some (.int x16), some (.int x17), some (.int x18), some (.int x19), some (.int x20), none, some (.int x22), some (.int y0), some (.int m19), some (.int v23), some (.int v27), none, none, none, none]) (st' := [.int (x12 + (3 : Int32)), .ref 0, .int x18, .ref 1]) rfl ?_
        refine wpl_lda rfl h48.1 ?_
        have h50 := h48.2
        refine wpl_v1 (m' := 16) (me' := cm16) (as := [.int x18, .int (sg (ix (x12 + (3 : Int32))))]) (r := []) rfl rfl rfl rfl rfl ⟨by decide, (by first | decide | exact Nat.le_of_ble_eq_true rfl), (by first | decide | exact Nat.le_of_ble_eq_true rfl), rfl⟩ (cal_I (calI.mono h50 fun v52 s51 h53 => ?_))
        refine wpl_sl (n := 2) (pc' := 315) (ls' := [some (.ref 0), some (.ref 1), some (.int x2), some (.int x3), some (.int x4), some (.int x5), some (.int x6), some (.int x7), some (.long x8), none, some (.long x10), none, some (.int x12), some (.int x13), none, some (.int x15), some (.int x16), some (.int x17), some (.int x18), some (.int x19), some (.int x20), some (.int v52), some (.int x22), some (.int y0), some (.int m19), some (.int v23), some (.int v27), none, none, none, none]) (st' := [.int y0]) rfl ?_
        refine wpl_if (a := 325) (b := 318) rfl (by decide) rfl rfl (wpl_br (p := y0 = (0 : Int32)) ⟨fun hc54 => ?_, fun hc54 => ?_⟩)
        · have h55 := h53.1 hc54
          exact wpl_lle (ls := [some (.ref 0), some (.ref 1), some (.int x2), some (.int x3), some (.int x4), some (.int x5), some (.int x6), some (.int x7), some (.long x8), none, some (.long x10), none, some (.int x12), none, none, none, none, none, none, none, none, some (.int v52), none, none, none, none, none, none, none, none, none]) ⟨rfl, rfl, rfl, rfl, rfl, rfl, rfl, rfl, rfl, rfl, rfl, rfl, trivial⟩ h55
        · have h56 := h53.2 hc54
          refine wpl_sl (n := 3) (pc' := 322) (ls' := [some (.ref 0), some (.ref 1), some (.int x2), some (.int x3), some (.int x4), some (.int x5), some (.int x6), some (.int x7), some (.long x8), none, some (.long x10), none, some (.int x12), some (.int x13), none, some (.int x15), some (.int x16), some (.int x17), some (.int x18), some (.int x19), some (.int x20), some (.int v52), some (.int x22), some (.int y0), some (.int m19), some (.int v23), some (.int v27), none, none, none, none]) (st' := [.int (x18 &&& (1 : Int32))]) rfl ?_
          refine wpl_if (a := 331) (b := 325) rfl (by decide) rfl rfl (wpl_br (p := (x18 &&& (1 : Int32)) = (0 : Int32)) ⟨fun hc57 => ?_, fun hc57 => ?_⟩)
          · have h58 := h56.1 hc57
            exact wpl_lle (ls := [some (.ref 0), some (.ref 1), some (.int x2), some (.int x3), some (.int x4), some (.int x5), some (.int x6), some (.int x7), some (.long x8), none, some (.long x10), none, some (.int x12), none, none, none, none, none, none, none, none, some (.int v52), none, none, none, none, none, none, none, none, none]) ⟨rfl, rfl, rfl, rfl, rfl, rfl, rfl, rfl, rfl, rfl, rfl, rfl, trivial⟩ h58
          · have h59 := h56.2 hc57
            refine wpl_sl (n := 7) (pc' := 339) (ls' := [some (.ref 0), some (.ref 1), some (.int x2), some (.int x3), some (.int x4), some (.int x5), some (.int x6), some (.int x7), some (.long x8), none, some (.long x10), none, some (.int x12), some (.int x13), none, some (.int x15), some (.int x16), some (.int x17), some (.int x18), some (.int x19), some (.int x20), some (.int v52), some (.int x22), some (.int y0), some (.int m19), some (.int v23), some (.int v27), none, none, none, none]) (st' := [.int ((x2 >>> ((x18 - (1 : Int32)) &&& 31)) &&& (1 : Int32))]) rfl ?_
            refine wpl_if (a := 349) (b := 342) rfl (by decide) rfl rfl (wpl_br (p := ((x2 >>> ((x18 - (1 : Int32)) &&& 31)) &&& (1 : Int32)) = (0 : Int32)) ⟨fun hc60 => ?_, fun hc60 => ?_⟩)
            · have h61 := h59.1 hc60
              refine wpl_sl (n := 3) (pc' := 1126) (ls' := [some (.ref 0), some (.ref 1), some (.int x2), some (.int x3), some (.int x4), some (.int x5), some (.int x6), some (.int x7), some (.long x8), none, some (.long x10), none, some (.int x12), some (.int x13), none, some (.int x15), some (.int x16), some (.int x17), some (.int x18), some (.int x19), some (.int (-4 : Int32)), some (.int v52), some (.int x22), some (.int y0), some (.int m19), some (.int v23), some (.int v27), none, none, none, none]) (st' := []) rfl ?_
              exact wpl_lle (ls := [some (.ref 0), some (.ref 1), some (.int x2), some (.int x3), some (.int x4), some (.int x5), some (.int x6), some (.int x7), some (.long x8), none, some (.long x10), none, some (.int x12), none, none, none, none, none, none, none, some (.int (-4 : Int32)), some (.int v52), none, none, none, none, none, none, none, none, none]) ⟨rfl, rfl, rfl, rfl, rfl, rfl, rfl, rfl, rfl, rfl, rfl, rfl, rfl, trivial⟩ h61
            · have h62 := h59.2 hc60
              refine wpl_sl (n := 2) (pc' := 352) (ls' := [some (.ref 0), some (.ref 1), some (.int x2), some (.int x3), some (.int x4), some (.int x5), some (.int x6), some (.int x7), some (.long x8), none, some (.long x10), none, some (.int x12), some (.int x13), none, some (.int x15), some (.int x16), some (.int x17), some (.int x18), some (.int x19), some (.int x20), some (.int v52), some (.int x22), some (.int y0), some (.int m19), some (.int v23), some (.int v27), none, none, none, none]) (st' := [.int (4 : Int32), .int m19]) rfl ?_
              refine wpl_icmp (a := 362) (b := 355) rfl (by decide) rfl rfl (wpl_br (p := m19 = (4 : Int32)) ⟨fun hc63 => ?_, fun hc63 => ?_⟩)
              · have h64 := h62.1 hc63
                refine wpl_sl (n := 3) (pc' := 1126) (ls' := [some (.ref 0), some (.ref 1), some (.int x2), some (.int x3), some (.int x4), some (.int x5), some (.int x6), some (.int x7), some (.long x8), none, some (.long x10), none, some (.int x12), some (.int x13), none, some (.int x15), some (.int x16), some (.int x17), some (.int x18), some (.int x19), some (.int (-2 : Int32)), some (.int v52), some (.int x22), some (.int y0), some (.int m19), some (.int v23), some (.int v27), none, none, none, none]) (st' := []) rfl ?_
                exact wpl_lle (ls := [some (.ref 0), some (.ref 1), some (.int x2), some (.int x3), some (.int x4), some (.int x5), some (.int x6), some (.int x7), some (.long x8), none, some (.long x10), none, some (.int x12), none, none, none, none, none, none, none, some (.int (-2 : Int32)), some (.int v52), none, none, none, none, none, none, none, none, none]) ⟨rfl, rfl, rfl, rfl, rfl, rfl, rfl, rfl, rfl, rfl, rfl, rfl, rfl, trivial⟩ h64
              · have h65 := h62.2 hc63
                refine wpl_sl (n := 5) (pc' := 371) (ls' := [some (.ref 0), some (.ref 1), some (.int x2), some (.int x3), some (.int x4), some (.int x5), some (.int x6), some (.int x7), some (.long x8), none, some (.long x10), none, some (.int x12), some (.int x13), none, some (.int x15), some (.int x16), some (.int x17), some (.int x18), some (.int x19), some (.int x20), some (.int v52), some (.int x22), some (.int y0), some (.int m19), some (.int v23), some (.int v27), none, none, none, none]) (st' := [.int (32 : Int32), .int x19, .long (Int32.toInt64 x16), .long x8]) rfl ?_
                refine wpl_sl (n := 5) (pc' := 378) (ls' := [some (.ref 0), some (.ref 1), some (.int x2), some (.int x3), some (.int x4), some (.int x5), some (.int x6), some (.int x7), some (.long x8), none, some (.long x10), none, some (.int x12), some (.int x13), none, some (.int x15), some (.int x16), some (.int x17), some (.int x18), some (.int x19), some (.int x20), some (.int v52), some (.int x22), some (.int y0), some (.int m19), some (.int v23), some (.int v27), none, none, none, none]) (st' := [.int ((x19 * (32 : Int32)) + (m19 * (8 : Int32))), .long (Int32.toInt64 x16), .long x8]) rfl ?_
                refine wpl_sl (n := 5) (pc' := 384) (ls' := [some (.ref 0), some (.ref 1), some (.int x2), some (.int x3), some (.int x4), some (.int x5), some (.int x6), some (.int x7), some (.long (x8 ||| ((Int32.toInt64 x16) <<< ((((x19 * (32 : Int32)) + (m19 * (8 : Int32)))).toInt64 &&& 63)))), none, some (.long x10), none, some (.int x12), some (.int x13), none, some (.int x15), some (.int x16), some (.int x17), some (.int x18), some (.int x19), some (.int x20), some (.int v52), some (.int x22), some (.int y0), some (.int m19), some (.int v23), some (.int v27), none, none, none, none]) (st' := [.int (1 : Int32), .int x3]) rfl ?_
                refine wpl_sl (n := 5) (pc' := 390) (ls' := [some (.ref 0), some (.ref 1), some (.int x2), some (.int x3), some (.int x4), some (.int x5), some (.int x6), some (.int x7), some (.long (x8 ||| ((Int32.toInt64 x16) <<< ((((x19 * (32 : Int32)) + (m19 * (8 : Int32)))).toInt64 &&& 63)))), none, some (.long x10), none, some (.int x12), some (.int x13), none, some (.int x15), some (.int x16), some (.int x17), some (.int x18), some (.int x19), some (.int x20), some (.int v52), some (.int x22), some (.int y0), some (.int m19), some (.int v23), some (.int v27), none, none, none, none]) (st' := [.int (x3 + ((1 : Int32) <<< ((x19 * (4 : Int32)) &&& 31)))]) rfl ?_
                refine wpl_sl (n := 5) (pc' := 397) (ls' := [some (.ref 0), some (.ref 1), some (.int x2), some (.int (x3 + ((1 : Int32) <<< ((x19 * (4 : Int32)) &&& 31)))), some (.int x4), some (.int x5), some (.int x6), some (.int x7), some (.long (x8 ||| ((Int32.toInt64 x16) <<< ((((x19 * (32 : Int32)) + (m19 * (8 : Int32)))).toInt64 &&& 63)))), none, some (.long x10), none, some (.int x12), some (.int x13), none, some (.int x15), some (.int x16), some (.int x17), some (.int x18), some (.int x19), some (.int x20), some (.int v52), some (.int x22), some (.int y0), some (.int m19), some (.int v23), some (.int v27), none, none, none, none]) (st' := [.int (x3 + ((1 : Int32) <<< ((x19 * (4 : Int32)) &&& 31))), .int x2, .int x4, .long x10]) rfl ?_
                refine wpl_sl (n := 3) (pc' := 403) (ls' := [some (.ref 0), some (.ref 1), some (.int x2), some (.int (x3 + ((1 : Int32) <<< ((x19 * (4 : Int32)) &&& 31)))), some (.int x4), some (.int x5), some (.int x6), some (.int x7), some (.long (x8 ||| ((Int32.toInt64 x16) <<< ((((x19 * (32 : Int32)) + (m19 * (8 : Int32)))).toInt64 &&& 63)))), none, some (.long x10), none, some (.int x12), some (.int x13), none, some (.int x15), some (.int x16), some (.int x17), some (.int x18), some (.int x19), some (.int x20), some (.int v52), some (.int x22), some (.int y0), some (.int m19), some (.int v23), some (.int v27), none, none, none, none]) (st' := [.int v27, .int v23, .int x19, .int (x3 + ((1 : Int32) <<< ((x19 * (4 : Int32)) &&& 31))), .int x2, .int x4, .long x10]) rfl ?_
                refine wpl_stat (m' := 5) (me' := lm5) (as := [.long x10, .int x4, .int x2, .int (x3 + ((1 : Int32) <<< ((x19 * (4 : Int32)) &&& 31))), .int x19, .int v23, .int v27]) (r := []) rfl rfl rfl rfl rfl ⟨(by first | decide | exact Nat.le_of_ble_eq_true rfl), (by first | decide | exact Nat.le_of_ble_eq_true rfl), (by first | decide | exact Nat.le_of_ble_eq_true rfl), (by first | decide | exact Nat.le_of_ble_eq_true rfl), rfl⟩ (lal_I (lalI.mono h65 fun v67 w66 hh => ?_))
                obtain ⟨s69, rfl, h68⟩ := hh
                refine wpl_sl (n := 2) (pc' := 1126) (ls' := [some (.ref 0), some (.ref 1), some (.int x2), some (.int (x3 + ((1 : Int32) <<< ((x19 * (4 : Int32)) &&& 31)))), some (.int v67), some (.int x5), some (.int x6), some (.int x7), some (.long (x8 ||| ((Int32.toInt64 x16) <<< ((((x19 * (32 : Int32)) + (m19 * (8 : Int32)))).toInt64 &&& 63)))), none, some (.long x10), none, some (.int x12), some (.int x13), none, some (.int x15), some (.int x16), some (.int x17), some (.int x18), some (.int x19), some (.int x20), some (.int v52), some (.int x22), some (.int y0), some (.int m19), some (.int v23), some (.int v27), none, none, none, none]) (st' := []) rfl ?_
                exact wpl_lle (ls := [some (.ref 0), some (.ref 1), some (.int x2), some (.int (x3 + ((1 : Int32) <<< ((x19 * (4 : Int32)) &&& 31)))), some (.int v67), some (.int x5), some (.int x6), some (.int x7), some (.long (x8 ||| ((Int32.toInt64 x16) <<< ((((x19 * (32 : Int32)) + (m19 * (8 : Int32)))).toInt64 &&& 63)))), none, some (.long x10), none, some (.int x12), none, none, none, none, none, none, none, some (.int x20), some (.int v52), none, none, none, none, none, none, none, none, none]) ⟨rfl, rfl, rfl, rfl, rfl, rfl, rfl, rfl, rfl, rfl, rfl, rfl, rfl, trivial⟩ h68
      · have h49 := h32.2 hc47
        refine wpl_sl (n := 2) (pc' := 414) (ls' := [some (.ref 0), some (.ref 1), some (.int x2), some (.int x3), some (.int x4), some (.int x5), some (.int x6), some (.int x7), some (.long x8), none, some (.long x10), none, some (.int x12), some (.int x13), none, some (.int x15), some (.int x16), some (.int x17), some (.int x18), some (.int x19), some (.int x20), none, some (.int x22), some (.int y0), some (.int m19), some (.int v23), some (.int v27), none, none, none, none]) (st' := [.int (2 : Int32), .int x13]) rfl ?_
        refine wpl_icmp (a := 554) (b := 417) rfl (by decide) rfl rfl (wpl_br (p := x13 = (2 : Int32)) ⟨fun hc70 => ?_, fun hc70 => ?_⟩)
        · have h71 := h49.1 hc70
          refine wpl_sl (n := 2) (pc' := 420) (ls' := [some (.ref 0), some (.ref 1), some (.int x2), some (.int x3), some (.int x4), some (.int x5), some (.int x6), some (.int x7), some (.long x8), none, some (.long x10), none, some (.int x12), some (.int x13), none, some (.int x15), some (.int x16), some (.int x17), some (.int x18), some (.int x19), some (.int x20), none, some (.int x22), some (.int y0), some (.int m19), some (.int v23), some (.int v27), none, none, none, none]) (st' := [.int x18, .ref 1]) rfl ?_
          refine wpl_v1 (m' := 17) (me' := cm17) (as := [.int x18]) (r := []) rfl rfl rfl rfl rfl ⟨by decide, (by first | decide | exact Nat.le_of_ble_eq_true rfl), (by first | decide | exact Nat.le_of_ble_eq_true rfl), rfl⟩ (cal_I (calI.mono h71 fun v74 s73 h75 => ?_))
          refine wpl_sl (n := 2) (pc' := 427) (ls' := [some (.ref 0), some (.ref 1), some (.int x2), some (.int x3), some (.int x4), some (.int x5), some (.int x6), some (.int x7), some (.long x8), none, some (.long x10), none, some (.int x12), some (.int x13), none, some (.int x15), some (.int x16), some (.int x17), some (.int x18), some (.int x19), some (.int x20), some (.int v74), some (.int x22), some (.int y0), some (.int m19), some (.int v23), some (.int v27), none, none, none, none]) (st' := [.int y0]) rfl ?_
          refine wpl_if (a := 438) (b := 430) rfl (by decide) rfl rfl (wpl_br (p := y0 = (0 : Int32)) ⟨fun hc76 => ?_, fun hc76 => ?_⟩)
          · have h77 := h75.1 hc76
            exact wpl_lle (ls := [some (.ref 0), some (.ref 1), some (.int x2), some (.int x3), some (.int x4), some (.int x5), some (.int x6), some (.int x7), some (.long x8), none, some (.long x10), none, some (.int x12), none, none, none, none, none, none, none, none, some (.int v74), none, none, none, none, none, none, none, none, none]) ⟨rfl, rfl, rfl, rfl, rfl, rfl, rfl, rfl, rfl, rfl, rfl, rfl, trivial⟩ h77
          · have h78 := h75.2 hc76
            refine wpl_sl (n := 4) (pc' := 435) (ls' := [some (.ref 0), some (.ref 1), some (.int x2), some (.int x3), some (.int x4), some (.int x5), some (.int x6), some (.int x7), some (.long x8), none, some (.long x10), none, some (.int x12), some (.int x13), none, some (.int x15), some (.int x16), some (.int x17), some (.int x18), some (.int x19), some (.int x20), some (.int v74), some (.int x22), some (.int y0), some (.int m19), some (.int v23), some (.int v27), none, none, none, none]) (st' := [.int (1 : Int32), .int (x18 &&& (1 : Int32))]) rfl ?_
            refine wpl_icmp (a := 444) (b := 438) rfl (by decide) rfl rfl (wpl_br (p := (x18 &&& (1 : Int32)) = (1 : Int32)) ⟨fun hc79 => ?_, fun hc79 => ?_⟩)
            · have h80 := h78.1 hc79
              exact wpl_lle (ls := [some (.ref 0), some (.ref 1), some (.int x2), some (.int x3), some (.int x4), some (.int x5), some (.int x6), some (.int x7), some (.long x8), none, some (.long x10), none, some (.int x12), none, none, none, none, none, none, none, none, some (.int v74), none, none, none, none, none, none, none, none, none]) ⟨rfl, rfl, rfl, rfl, rfl, rfl, rfl, rfl, rfl, rfl, rfl, rfl, trivial⟩ h80
            · have h81 := h78.2 hc79
              refine wpl_sl (n := 1) (pc' := 446) (ls' := [some (.ref 0), some (.ref 1), some (.int x2), some (.int x3), some (.int x4), some (.int x5), some (.int x6), some (.int x7), some (.long x8), none, some (.long x10), none, some (.int x12), some (.int x13), none, some (.int x15), some (.int x16), some (.int x17), some (.int x18), some (.int x19), some (.int x20), some (.int v74), some (.int x22), some (.int y0), some (.int m19), some (.int v23), some (.int v27), none, none, none, none]) (st' := [.int m19]) rfl ?_
              refine wpl_if (a := 472) (b := 449) rfl (by decide) rfl rfl (wpl_br (p := m19 = (0 : Int32)) ⟨fun hc82 => ?_, fun hc82 => ?_⟩)
              · have h83 := h81.1 hc82
                refine wpl_sl (n := 7) (pc' := 457) (ls' := [some (.ref 0), some (.ref 1), some (.int x2), some (.int x3), some (.int x4), some (.int x5), some (.int x6), some (.int x7), some (.long x8), none, some (.long x10), none, some (.int x12), some (.int x13), none, some (.int x15), some (.int x16), some (.int x17), some (.int x18), some (.int x19), some (.int x20), some (.int v74), some (.int x22), some (.int y0), some (.int m19), some (.int v23), some (.int v27), none, none, none, none]) (st' := [.int ((x2 >>> ((x18 + (1 : Int32)) &&& 31)) &&& (1 : Int32))]) rfl ?_
                have hm86 : ∀ m85, m85 = (if ((x2 >>> ((x18 + (1 : Int32)) &&& 31)) &&& (1 : Int32)) = (0 : Int32) then (-3 : Int32) else (-2 : Int32)) → wplI PP QQ (some (N, sg)) 0 lm0 467 [some (.ref 0), some (.ref 1), some (.int x2), some (.int x3), some (.int x4), some (.int x5), some (.int x6), some (.int x7), some (.long x8), none, some (.long x10), none, some (.int x12), some (.int x13), none, some (.int x15), some (.int x16), some (.int x17), some (.int x18), some (.int x19), some (.int x20), some (.int v74), some (.int x22), some (.int y0), some (.int m19), some (.int v23), some (.int v27), none, none, none, none] [.int m85] (W1 s73) Q := by
                  intro m85 em85
                  have h87 := h83 m85 em85
                  refine wpl_sl (n := 2) (pc' := 1126) (ls' := [some (.ref 0), some (.ref 1), some (.int x2), some (.int x3), some (.int x4), some (.int x5), some (.int x6), some (.int x7), some (.long x8), none, some (.long x10), none, some (.int x12), some (.int x13), none, some (.int x15), some (.int x16), some (.int x17), some (.int x18), some (.int x19), some (.int m85), some (.int v74), some (.int x22), some (.int y0), some (.int m19), some (.int v23), some (.int v27), none, none, none, none]) (st' := []) rfl ?_
                  exact wpl_lle (ls := [some (.ref 0), some (.ref 1), some (.int x2), some (.int x3), some (.int x4), some (.int x5), some (.int x6), some (.int x7), some (.long x8), none, some (.long x10), none, some (.int x12), none, none, none, none, none, none, none, some (.int m85), some (.int v74), none, none, none, none, none, none, none, none, none]) ⟨rfl, rfl, rfl, rfl, rfl, rfl, rfl, rfl, rfl, rfl, rfl, rfl, rfl, trivial⟩ h87
                refine wpl_if (a := 465) (b := 460) rfl (by decide) rfl rfl (wpl_br (p := ((x2 >>> ((x18 + (1 : Int32)) &&& 31)) &&& (1 : Int32)) = (0 : Int32)) ⟨fun hc88 => ?_, fun hc88 => ?_⟩)
                · refine wpl_sl (n := 1) (pc' := 467) (ls' := [some (.ref 0), some (.ref 1), some (.int x2), some (.int x3), some (.int x4), some (.int x5), some (.int x6), some (.int x7), some (.long x8), none, some (.long x10), none, some (.int x12), some (.int x13), none, some (.int x15), some (.int x16), some (.int x17), some (.int x18), some (.int x19), some (.int x20), some (.int v74), some (.int x22), some (.int y0), some (.int m19), some (.int v23), some (.int v27), none, none, none, none]) (st' := [.int (-3 : Int32)]) rfl ?_
                  first | exact hm86 _ (by simp only [if_pos hc88]) | exact wpl_lle (by repeat (first | exact trivial | refine ⟨rfl, ?_⟩)) (hm86 _ (by simp only [if_pos hc88]))
                · refine wpl_sl (n := 2) (pc' := 467) (ls' := [some (.ref 0), some (.ref 1), some (.int x2), some (.int x3), some (.int x4), some (.int x5), some (.int x6), some (.int x7), some (.long x8), none, some (.long x10), none, some (.int x12), some (.int x13), none, some (.int x15), some (.int x16), some (.int x17), some (.int x18), some (.int x19), some (.int x20), some (.int v74), some (.int x22), some (.int y0), some (.int m19), some (.int v23), some (.int v27), none, none, none, none]) (st' := [.int (-2 : Int32)]) rfl ?_
                  first | exact hm86 _ (by simp only [if_neg hc88]) | exact wpl_lle (by repeat (first | exact trivial | refine ⟨rfl, ?_⟩)) (hm86 _ (by simp only [if_neg hc88]))
              · have h84 := h81.2 hc82
                refine wpl_sl (n := 5) (pc' := 480) (ls' := [some (.ref 0), some (.ref 1), some (.int x2), some (.int x3), some (.int x4), some (.int x5), some (.int x6), some (.int x7), some (.long x8), none, some (.long x10), none, some (.int x12), some (.int x13), none, some (.int x15), some (.int x16), some (.int x17), some (.int x18), some (.int x19), some (.int x20), some (.int v74), some (.int x22), some (.int y0), some (.int m19), some (.int v23), some (.int v27), none, none, none, none]) (st' := [.long (XT.ushrL x8 (x19 * (32 : Int32)))]) rfl ?_
                refine wpl_sl (n := 5) (pc' := 491) (ls' := [some (.ref 0), some (.ref 1), some (.int x2), some (.int x3), some (.int x4), some (.int x5), some (.int x6), some (.int x7), some (.long x8), none, some (.long x10), none, some (.int x12), some (.int x13), none, some (.int x15), some (.int x16), some (.int x17), some (.int x18), some (.int x19), some (.int x20), some (.int v74), some (.int x22), some (.int y0), some (.int m19), some (.int v23), some (.int v27), some (.long ((XT.ushrL x8 (x19 * (32 : Int32))) &&& (4294967295 : Int64))), none, none, none]) (st' := [.long (255 : Int64), .long ((XT.ushrL x8 (x19 * (32 : Int32))) &&& (4294967295 : Int64))]) rfl ?_
                refine wpl_sl (n := 5) (pc' := 500) (ls' := [some (.ref 0), some (.ref 1), some (.int x2), some (.int x3), some (.int x4), some (.int x5), some (.int x6), some (.int x7), some (.long x8), none, some (.long x10), none, some (.int x12), some (.int x13), none, some (.int x15), some (.int x16), some (.int x17), some (.int x18), some (.int x19), some (.int (Int64.toInt32 (((XT.ushrL x8 (x19 * (32 : Int32))) &&& (4294967295 : Int64)) &&& (255 : Int64)))), some (.int v74), some (.int x22), some (.int y0), some (.int m19), some (.int v23), some (.int v27), some (.long ((XT.ushrL x8 (x19 * (32 : Int32))) &&& (4294967295 : Int64))), none, none, none]) (st' := [.long (4294967295 : Int64), .long x8]) rfl ?_
                refine wpl_sl (n := 5) (pc' := 509) (ls' := [some (.ref 0), some (.ref 1), some (.int x2), some (.int x3), some (.int x4), some (.int x5), some (.int x6), some (.int x7), some (.long x8), none, some (.long x10), none, some (.int x12), some (.int x13), none, some (.int x15), some (.int x16), some (.int x17), some (.int x18), some (.int x19), some (.int (Int64.toInt32 (((XT.ushrL x8 (x19 * (32 : Int32))) &&& (4294967295 : Int64)) &&& (255 : Int64)))), some (.int v74), some (.int x22), some (.int y0), some (.int m19), some (.int v23), some (.int v27), some (.long ((XT.ushrL x8 (x19 * (32 : Int32))) &&& (4294967295 : Int64))), none, none, none]) (st' := [.long (-1 : Int64), .long ((4294967295 : Int64) <<< (((x19 * (32 : Int32))).toInt64 &&& 63)), .long x8]) rfl ?_
                refine wpl_sl (n := 5) (pc' := 516) (ls' := [some (.ref 0), some (.ref 1), some (.int x2), some (.int x3), some (.int x4), some (.int x5), some (.int x6), some (.int x7), some (.long x8), none, some (.long x10), none, some (.int x12), some (.int x13), none, some (.int x15), some (.int x16), some (.int x17), some (.int x18), some (.int x19), some (.int (Int64.toInt32 (((XT.ushrL x8 (x19 * (32 : Int32))) &&& (4294967295 : Int64)) &&& (255 : Int64)))), some (.int v74), some (.int x22), some (.int y0), some (.int m19), some (.int v23), some (.int v27), some (.long ((XT.ushrL x8 (x19 * (32 : Int32))) &&& (4294967295 : Int64))), none, none, none]) (st' := [.long (XT.ushrL ((XT.ushrL x8 (x19 * (32 : Int32))) &&& (4294967295 : Int64)) (8 : Int32)), .long (x8 &&& (((4294967295 : Int64) <<< (((x19 * (32 : Int32))).toInt64 &&& 63)) ^^^ (-1 : Int64)))]) rfl ?_
                refine wpl_sl (n := 5) (pc' := 523) (ls' := [some (.ref 0), some (.ref 1), some (.int x2), some (.int x3), some (.int x4), some (.int x5), some (.int x6), some (.int x7), some (.long x8), none, some (.long x10), none, some (.int x12), some (.int x13), none, some (.int x15), some (.int x16), some (.int x17), some (.int x18), some (.int x19), some (.int (Int64.toInt32 (((XT.ushrL x8 (x19 * (32 : Int32))) &&& (4294967295 : Int64)) &&& (255 : Int64)))), some (.int v74), some (.int x22), some (.int y0), some (.int m19), some (.int v23), some (.int v27), some (.long ((XT.ushrL x8 (x19 * (32 : Int32))) &&& (4294967295 : Int64))), none, none, none]) (st' := [.long ((x8 &&& (((4294967295 : Int64) <<< (((x19 * (32 : Int32))).toInt64 &&& 63)) ^^^ (-1 : Int64))) ||| ((XT.ushrL ((XT.ushrL x8 (x19 * (32 : Int32))) &&& (4294967295 : Int64)) (8 : Int32)) <<< (((x19 * (32 : Int32))).toInt64 &&& 63)))]) rfl ?_
                refine wpl_sl (n := 5) (pc' := 530) (ls' := [some (.ref 0), some (.ref 1), some (.int x2), some (.int x3), some (.int x4), some (.int x5), some (.int x6), some (.int x7), some (.long ((x8 &&& (((4294967295 : Int64) <<< (((x19 * (32 : Int32))).toInt64 &&& 63)) ^^^ (-1 : Int64))) ||| ((XT.ushrL ((XT.ushrL x8 (x19 * (32 : Int32))) &&& (4294967295 : Int64)) (8 : Int32)) <<< (((x19 * (32 : Int32))).toInt64 &&& 63)))), none, some (.long x10), none, some (.int x12), some (.int x13), none, some (.int x15), some (.int x16), some (.int x17), some (.int x18), some (.int x19), some (.int (Int64.toInt32 (((XT.ushrL x8 (x19 * (32 : Int32))) &&& (4294967295 : Int64)) &&& (255 : Int64)))), some (.int v74), some (.int x22), some (.int y0), some (.int m19), some (.int v23), some (.int v27), some (.long ((XT.ushrL x8 (x19 * (32 : Int32))) &&& (4294967295 : Int64))), none, none, none]) (st' := [.int (4 : Int32), .int x19, .int (1 : Int32), .int x3]) rfl ?_
                refine wpl_sl (n := 5) (pc' := 536) (ls' := [some (.ref 0), some (.ref 1), some (.int x2), some (.int (x3 - ((1 : Int32) <<< ((x19 * (4 : Int32)) &&& 31)))), some (.int x4), some (.int x5), some (.int x6), some (.int x7), some (.long ((x8 &&& (((4294967295 : Int64) <<< (((x19 * (32 : Int32))).toInt64 &&& 63)) ^^^ (-1 : Int64))) ||| ((XT.ushrL ((XT.ushrL x8 (x19 * (32 : Int32))) &&& (4294967295 : Int64)) (8 : Int32)) <<< (((x19 * (32 : Int32))).toInt64 &&& 63)))), none, some (.long x10), none, some (.int x12), some (.int x13), none, some (.int x15), some (.int x16), some (.int x17), some (.int x18), some (.int x19), some (.int (Int64.toInt32 (((XT.ushrL x8 (x19 * (32 : Int32))) &&& (4294967295 : Int64)) &&& (255 : Int64)))), some (.int v74), some (.int x22), some (.int y0), some (.int m19), some (.int v23), some (.int v27), some (.long ((XT.ushrL x8 (x19 * (32 : Int32))) &&& (4294967295 : Int64))), none, none, none]) (st' := [.long x10]) rfl ?_
                refine wpl_sl (n := 5) (pc' := 544) (ls' := [some (.ref 0), some (.ref 1), some (.int x2), some (.int (x3 - ((1 : Int32) <<< ((x19 * (4 : Int32)) &&& 31)))), some (.int x4), some (.int x5), some (.int x6), some (.int x7), some (.long ((x8 &&& (((4294967295 : Int64) <<< (((x19 * (32 : Int32))).toInt64 &&& 63)) ^^^ (-1 : Int64))) ||| ((XT.ushrL ((XT.ushrL x8 (x19 * (32 : Int32))) &&& (4294967295 : Int64)) (8 : Int32)) <<< (((x19 * (32 : Int32))).toInt64 &&& 63)))), none, some (.long x10), none, some (.int x12), some (.int x13), none, some (.int x15), some (.int x16), some (.int x17), some (.int x18), some (.int x19), some (.int (Int64.toInt32 (((XT.ushrL x8 (x19 * (32 : Int32))) &&& (4294967295 : Int64)) &&& (255 : Int64)))), some (.int v74), some (.int x22), some (.int y0), some (.int m19), some (.int v23), some (.int v27), some (.long ((XT.ushrL x8 (x19 * (32 : Int32))) &&& (4294967295 : Int64))), none, none, none]) (st' := [.int v23, .int x19, .int (x3 - ((1 : Int32) <<< ((x19 * (4 : Int32)) &&& 31))), .int x2, .int x4, .long x10]) rfl ?_
                refine wpl_sl (n := 1) (pc' := 546) (ls' := [some (.ref 0), some (.ref 1), some (.int x2), some (.int (x3 - ((1 : Int32) <<< ((x19 * (4 : Int32)) &&& 31)))), some (.int x4), some (.int x5), some (.int x6), some (.int x7), some (.long ((x8 &&& (((4294967295 : Int64) <<< (((x19 * (32 : Int32))).toInt64 &&& 63)) ^^^ (-1 : Int64))) ||| ((XT.ushrL ((XT.ushrL x8 (x19 * (32 : Int32))) &&& (4294967295 : Int64)) (8 : Int32)) <<< (((x19 * (32 : Int32))).toInt64 &&& 63)))), none, some (.long x10), none, some (.int x12), some (.int x13), none, some (.int x15), some (.int x16), some (.int x17), some (.int x18), some (.int x19), some (.int (Int64.toInt32 (((XT.ushrL x8 (x19 * (32 : Int32))) &&& (4294967295 : Int64)) &&& (255 : Int64)))), some (.int v74), some (.int x22), some (.int y0), some (.int m19), some (.int v23), some (.int v27), some (.long ((XT.ushrL x8 (x19 * (32 : Int32))) &&& (4294967295 : Int64))), none, none, none]) (st' := [.int v27, .int v23, .int x19, .int (x3 - ((1 : Int32) <<< ((x19 * (4 : Int32)) &&& 31))), .int x2, .int x4, .long x10]) rfl ?_
                refine wpl_stat (m' := 5) (me' := lm5) (as := [.long x10, .int x4, .int x2, .int (x3 - ((1 : Int32) <<< ((x19 * (4 : Int32)) &&& 31))), .int x19, .int v23, .int v27]) (r := []) rfl rfl rfl rfl rfl ⟨(by first | decide | exact Nat.le_of_ble_eq_true rfl), (by first | decide | exact Nat.le_of_ble_eq_true rfl), (by first | decide | exact Nat.le_of_ble_eq_true rfl), (by first | decide | exact Nat.le_of_ble_eq_true rfl), rfl⟩ (lal_I (lalI.mono h84 fun v90 w89 hh => ?_))
                obtain ⟨s92, rfl, h91⟩ := hh
                refine wpl_sl (n := 2) (pc' := 1126) (ls' := [some (.ref 0), some (.ref 1), some (.int x2), some (.int (x3 - ((1 : Int32) <<< ((x19 * (4 : Int32)) &&& 31)))), some (.int v90), some (.int x5), some (.int x6), some (.int x7), some (.long ((x8 &&& (((4294967295 : Int64) <<< (((x19 * (32 : Int32))).toInt64 &&& 63)) ^^^ (-1 : Int64))) ||| ((XT.ushrL ((XT.ushrL x8 (x19 * (32 : Int32))) &&& (4294967295 : Int64)) (8 : Int32)) <<< (((x19 * (32 : Int32))).toInt64 &&& 63)))), none, some (.long x10), none, some (.int x12), some (.int x13), none, some (.int x15), some (.int x16), some (.int x17), some (.int x18), some (.int x19), some (.int (Int64.toInt32 (((XT.ushrL x8 (x19 * (32 : Int32))) &&& (4294967295 : Int64)) &&& (255 : Int64)))), some (.int v74), some (.int x22), some (.int y0), some (.int m19), some (.int v23), some (.int v27), some (.long ((XT.ushrL x8 (x19 * (32 : Int32))) &&& (4294967295 : Int64))), none, none, none]) (st' := []) rfl ?_
                exact wpl_lle (ls := [some (.ref 0), some (.ref 1), some (.int x2), some (.int (x3 - ((1 : Int32) <<< ((x19 * (4 : Int32)) &&& 31)))), some (.int v90), some (.int x5), some (.int x6), some (.int x7), some (.long ((x8 &&& (((4294967295 : Int64) <<< (((x19 * (32 : Int32))).toInt64 &&& 63)) ^^^ (-1 : Int64))) ||| ((XT.ushrL ((XT.ushrL x8 (x19 * (32 : Int32))) &&& (4294967295 : Int64)) (8 : Int32)) <<< (((x19 * (32 : Int32))).toInt64 &&& 63)))), none, some (.long x10), none, some (.int x12), none, none, none, none, none, none, none, some (.int (Int64.toInt32 (((XT.ushrL x8 (x19 * (32 : Int32))) &&& (4294967295 : Int64)) &&& (255 : Int64)))), some (.int v74), none, none, none, none, none, none, none, none, none]) ⟨rfl, rfl, rfl, rfl, rfl, rfl, rfl, rfl, rfl, rfl, rfl, rfl, rfl, trivial⟩ h91
        · have h72 := h49.2 hc70
          refine wpl_sl (n := 2) (pc' := 557) (ls' := [some (.ref 0), some (.ref 1), some (.int x2), some (.int x3), some (.int x4), some (.int x5), some (.int x6), some (.int x7), some (.long x8), none, some (.long x10), none, some (.int x12), some (.int x13), none, some (.int x15), some (.int x16), some (.int x17), some (.int x18), some (.int x19), some (.int x20), none, some (.int x22), some (.int y0), some (.int m19), some (.int v23), some (.int v27), none, none, none, none]) (st' := [.int (3 : Int32), .int x13]) rfl ?_
          refine wpl_icmp (a := 668) (b := 560) rfl (by decide) rfl rfl (wpl_br (p := x13 = (3 : Int32)) ⟨fun hc93 => ?_, fun hc93 => ?_⟩)
          · have h94 := h72.1 hc93
            refine wpl_sl (n := 2) (pc' := 563) (ls' := [some (.ref 0), some (.ref 1), some (.int x2), some (.int x3), some (.int x4), some (.int x5), some (.int x6), some (.int x7), some (.long x8), none, some (.long x10), none, some (.int x12), some (.int x13), none, some (.int x15), some (.int x16), some (.int x17), some (.int x18), some (.int x19), some (.int x20), none, some (.int x22), some (.int y0), some (.int m19), some (.int v23), some (.int v27), none, none, none, none]) (st' := [.int x18, .ref 1]) rfl ?_
            refine wpl_v1 (m' := 18) (me' := cm18) (as := [.int x18]) (r := []) rfl rfl rfl rfl rfl ⟨by decide, (by first | decide | exact Nat.le_of_ble_eq_true rfl), (by first | decide | exact Nat.le_of_ble_eq_true rfl), rfl⟩ (cal_I (calI.mono h94 fun v97 s96 h98 => ?_))
            refine wpl_sl (n := 2) (pc' := 570) (ls' := [some (.ref 0), some (.ref 1), some (.int x2), some (.int x3), some (.int x4), some (.int x5), some (.int x6), some (.int x7), some (.long x8), none, some (.long x10), none, some (.int x12), some (.int x13), none, some (.int x15), some (.int x16), some (.int x17), some (.int x18), some (.int x19), some (.int x20), some (.int v97), some (.int x22), some (.int y0), some (.int m19), some (.int v23), some (.int v27), none, none, none, none]) (st' := [.int y0]) rfl ?_
            refine wpl_if (a := 579) (b := 573) rfl (by decide) rfl rfl (wpl_br (p := y0 = (0 : Int32)) ⟨fun hc99 => ?_, fun hc99 => ?_⟩)
            · have h100 := h98.1 hc99
              refine wpl_sl (n := 3) (pc' := 1126) (ls' := [some (.ref 0), some (.ref 1), some (.int x2), some (.int x3), some (.int x4), some (.int x5), some (.int x6), some (.int x7), some (.long x8), none, some (.long x10), none, some (.int x12), some (.int x13), none, some (.int x15), some (.int x16), some (.int x17), some (.int x18), some (.int x19), some (.int (-1 : Int32)), some (.int v97), some (.int x22), some (.int y0), some (.int m19), some (.int v23), some (.int v27), none, none, none, none]) (st' := []) rfl ?_
              exact wpl_lle (ls := [some (.ref 0), some (.ref 1), some (.int x2), some (.int x3), some (.int x4), some (.int x5), some (.int x6), some (.int x7), some (.long x8), none, some (.long x10), none, some (.int x12), none, none, none, none, none, none, none, some (.int (-1 : Int32)), some (.int v97), none, none, none, none, none, none, none, none, none]) ⟨rfl, rfl, rfl, rfl, rfl, rfl, rfl, rfl, rfl, rfl, rfl, rfl, rfl, trivial⟩ h100
            · have h101 := h98.2 hc99
              refine wpl_sl (n := 5) (pc' := 585) (ls' := [some (.ref 0), some (.ref 1), some (.int x2), some (.int x3), some (.int x4), some (.int x5), some (.int x6), some (.int x7), some (.long x8), none, some (.long x10), none, some (.int x12), some (.int x13), none, some (.int x15), some (.int x16), some (.int x17), some (.int x18), some (.int x19), some (.int x20), some (.int v97), some (.int x22), some (.int y0), some (.int m19), some (.int v23), some (.int v27), none, none, none, none]) (st' := [.int (-1 : Int32), .int ((1 : Int32) <<< (x18 &&& 31)), .int x2]) rfl ?_
              refine wpl_sl (n := 5) (pc' := 593) (ls' := [some (.ref 0), some (.ref 1), some (.int (x2 &&& (((1 : Int32) <<< (x18 &&& 31)) ^^^ (-1 : Int32)))), some (.int x3), some (.int x4), some (.int x5), some (.int x6), some (.int x7), some (.long x8), none, some (.long x10), none, some (.int x12), some (.int x13), none, some (.int x15), some (.int x16), some (.int x17), some (.int x18), some (.int x19), some (.int x20), some (.int v97), some (.int x22), some (.int y0), some (.int m19), some (.int v23), some (.int v27), none, none, none, none]) (st' := [.long (255 : Int64), .long x10]) rfl ?_
              refine wpl_sl (n := 5) (pc' := 602) (ls' := [some (.ref 0), some (.ref 1), some (.int (x2 &&& (((1 : Int32) <<< (x18 &&& 31)) ^^^ (-1 : Int32)))), some (.int x3), some (.int x4), some (.int x5), some (.int x6), some (.int x7), some (.long x8), none, some (.long x10), none, some (.int x12), some (.int x13), none, some (.int x15), some (.int x16), some (.int x17), some (.int x18), some (.int x19), some (.int x20), some (.int v97), some (.int x22), some (.int y0), some (.int m19), some (.int v23), some (.int v27), none, none, none, none]) (st' := [.long (-1 : Int64), .long ((255 : Int64) <<< (((x18 * (8 : Int32))).toInt64 &&& 63)), .long x10]) rfl ?_
              refine wpl_sl (n := 5) (pc' := 610) (ls' := [some (.ref 0), some (.ref 1), some (.int (x2 &&& (((1 : Int32) <<< (x18 &&& 31)) ^^^ (-1 : Int32)))), some (.int x3), some (.int x4), some (.int x5), some (.int x6), some (.int x7), some (.long x8), none, some (.long x10), none, some (.int x12), some (.int x13), none, some (.int x15), some (.int x16), some (.int x17), some (.int x18), some (.int x19), some (.int x20), some (.int v97), some (.int x22), some (.int y0), some (.int m19), some (.int v23), some (.int v27), none, none, none, none]) (st' := [.int (x18 + (4 : Int32)), .long (255 : Int64), .long (((255 : Int64) <<< (((x18 * (8 : Int32))).toInt64 &&& 63)) ^^^ (-1 : Int64)), .long x10]) rfl ?_
              refine wpl_sl (n := 5) (pc' := 618) (ls' := [some (.ref 0), some (.ref 1), some (.int (x2 &&& (((1 : Int32) <<< (x18 &&& 31)) ^^^ (-1 : Int32)))), some (.int x3), some (.int x4), some (.int x5), some (.int x6), some (.int x7), some (.long x8), none, some (.long x10), none, some (.int x12), some (.int x13), none, some (.int x15), some (.int x16), some (.int x17), some (.int x18), some (.int x19), some (.int x20), some (.int v97), some (.int x22), some (.int y0), some (.int m19), some (.int v23), some (.int v27), none, none, none, none]) (st' := [.long (((255 : Int64) <<< ((((x18 + (4 : Int32)) * (8 : Int32))).toInt64 &&& 63)) ^^^ (-1 : Int64)), .long (((255 : Int64) <<< (((x18 * (8 : Int32))).toInt64 &&& 63)) ^^^ (-1 : Int64)), .long x10]) rfl ?_
              refine wpl_sl (n := 5) (pc' := 626) (ls' := [some (.ref 0), some (.ref 1), some (.int (x2 &&& (((1 : Int32) <<< (x18 &&& 31)) ^^^ (-1 : Int32)))), some (.int x3), some (.int x4), some (.int x5), some (.int x6), some (.int x7), some (.long x8), none, some (.long (x10 &&& ((((255 : Int64) <<< (((x18 * (8 : Int32))).toInt64 &&& 63)) ^^^ (-1 : Int64)) &&& (((255 : Int64) <<< ((((x18 + (4 : Int32)) * (8 : Int32))).toInt64 &&& 63)) ^^^ (-1 : Int64))))), none, some (.int x12), some (.int x13), none, some (.int x15), some (.int x16), some (.int x17), some (.int x18), some (.int x19), some (.int x20), some (.int v97), some (.int x22), some (.int y0), some (.int m19), some (.int v23), some (.int v27), none, none, none, none]) (st' := [.int (15 : Int32), .int x4]) rfl ?_
              refine wpl_sl (n := 5) (pc' := 632) (ls' := [some (.ref 0), some (.ref 1), some (.int (x2 &&& (((1 : Int32) <<< (x18 &&& 31)) ^^^ (-1 : Int32)))), some (.int x3), some (.int x4), some (.int x5), some (.int x6), some (.int x7), some (.long x8), none, some (.long (x10 &&& ((((255 : Int64) <<< (((x18 * (8 : Int32))).toInt64 &&& 63)) ^^^ (-1 : Int64)) &&& (((255 : Int64) <<< ((((x18 + (4 : Int32)) * (8 : Int32))).toInt64 &&& 63)) ^^^ (-1 : Int64))))), none, some (.int x12), some (.int x13), none, some (.int x15), some (.int x16), some (.int x17), some (.int x18), some (.int x19), some (.int x20), some (.int v97), some (.int x22), some (.int y0), some (.int m19), some (.int v23), some (.int v27), none, none, none, none]) (st' := [.int (-1 : Int32), .int ((15 : Int32) <<< ((x18 * (4 : Int32)) &&& 31)), .int x4]) rfl ?_
              refine wpl_sl (n := 5) (pc' := 639) (ls' := [some (.ref 0), some (.ref 1), some (.int (x2 &&& (((1 : Int32) <<< (x18 &&& 31)) ^^^ (-1 : Int32)))), some (.int x3), some (.int x4), some (.int x5), some (.int x6), some (.int x7), some (.long x8), none, some (.long (x10 &&& ((((255 : Int64) <<< (((x18 * (8 : Int32))).toInt64 &&& 63)) ^^^ (-1 : Int64)) &&& (((255 : Int64) <<< ((((x18 + (4 : Int32)) * (8 : Int32))).toInt64 &&& 63)) ^^^ (-1 : Int64))))), none, some (.int x12), some (.int x13), none, some (.int x15), some (.int x16), some (.int x17), some (.int x18), some (.int x19), some (.int x20), some (.int v97), some (.int x22), some (.int y0), some (.int m19), some (.int v23), some (.int v27), none, none, none, none]) (st' := [.int (x18 + (4 : Int32)), .int (15 : Int32), .int (((15 : Int32) <<< ((x18 * (4 : Int32)) &&& 31)) ^^^ (-1 : Int32)), .int x4]) rfl ?_
              refine wpl_sl (n := 5) (pc' := 644) (ls' := [some (.ref 0), some (.ref 1), some (.int (x2 &&& (((1 : Int32) <<< (x18 &&& 31)) ^^^ (-1 : Int32)))), some (.int x3), some (.int x4), some (.int x5), some (.int x6), some (.int x7), some (.long x8), none, some (.long (x10 &&& ((((255 : Int64) <<< (((x18 * (8 : Int32))).toInt64 &&& 63)) ^^^ (-1 : Int64)) &&& (((255 : Int64) <<< ((((x18 + (4 : Int32)) * (8 : Int32))).toInt64 &&& 63)) ^^^ (-1 : Int64))))), none, some (.int x12), some (.int x13), none, some (.int x15), some (.int x16), some (.int x17), some (.int x18), some (.int x19), some (.int x20), some (.int v97), some (.int x22), some (.int y0), some (.int m19), some (.int v23), some (.int v27), none, none, none, none]) (st' := [.int (((15 : Int32) <<< (((x18 + (4 : Int32)) * (4 : Int32)) &&& 31)) ^^^ (-1 : Int32)), .int (((15 : Int32) <<< ((x18 * (4 : Int32)) &&& 31)) ^^^ (-1 : Int32)), .int x4]) rfl ?_
              refine wpl_sl (n := 5) (pc' := 652) (ls' := [some (.ref 0), some (.ref 1), some (.int (x2 &&& (((1 : Int32) <<< (x18 &&& 31)) ^^^ (-1 : Int32)))), some (.int x3), some (.int (x4 &&& ((((15 : Int32) <<< ((x18 * (4 : Int32)) &&& 31)) ^^^ (-1 : Int32)) &&& (((15 : Int32) <<< (((x18 + (4 : Int32)) * (4 : Int32)) &&& 31)) ^^^ (-1 : Int32))))), some (.int x5), some (.int x6), some (.int x7), some (.long x8), none, some (.long (x10 &&& ((((255 : Int64) <<< (((x18 * (8 : Int32))).toInt64 &&& 63)) ^^^ (-1 : Int64)) &&& (((255 : Int64) <<< ((((x18 + (4 : Int32)) * (8 : Int32))).toInt64 &&& 63)) ^^^ (-1 : Int64))))), none, some (.int x12), some (.int x13), none, some (.int x15), some (.int x16), some (.int x17), some (.int x18), some (.int x19), some (.int x20), some (.int v97), some (.int x22), some (.int y0), some (.int m19), some (.int v23), some (.int v27), none, none, none, none]) (st' := [.int (x4 &&& ((((15 : Int32) <<< ((x18 * (4 : Int32)) &&& 31)) ^^^ (-1 : Int32)) &&& (((15 : Int32) <<< (((x18 + (4 : Int32)) * (4 : Int32)) &&& 31)) ^^^ (-1 : Int32)))), .long (x10 &&& ((((255 : Int64) <<< (((x18 * (8 : Int32))).toInt64 &&& 63)) ^^^ (-1 : Int64)) &&& (((255 : Int64) <<< ((((x18 + (4 : Int32)) * (8 : Int32))).toInt64 &&& 63)) ^^^ (-1 : Int64))))]) rfl ?_
              refine wpl_sl (n := 5) (pc' := 660) (ls' := [some (.ref 0), some (.ref 1), some (.int (x2 &&& (((1 : Int32) <<< (x18 &&& 31)) ^^^ (-1 : Int32)))), some (.int x3), some (.int (x4 &&& ((((15 : Int32) <<< ((x18 * (4 : Int32)) &&& 31)) ^^^ (-1 : Int32)) &&& (((15 : Int32) <<< (((x18 + (4 : Int32)) * (4 : Int32)) &&& 31)) ^^^ (-1 : Int32))))), some (.int x5), some (.int x6), some (.int x7), some (.long x8), none, some (.long (x10 &&& ((((255 : Int64) <<< (((x18 * (8 : Int32))).toInt64 &&& 63)) ^^^ (-1 : Int64)) &&& (((255 : Int64) <<< ((((x18 + (4 : Int32)) * (8 : Int32))).toInt64 &&& 63)) ^^^ (-1 : Int64))))), none, some (.int x12), some (.int x13), none, some (.int x15), some (.int x16), some (.int x17), some (.int x18), some (.int x19), some (.int x20), some (.int v97), some (.int x22), some (.int y0), some (.int m19), some (.int v23), some (.int v27), none, none, none, none]) (st' := [.int v27, .int v23, .int x19, .int x3, .int (x2 &&& (((1 : Int32) <<< (x18 &&& 31)) ^^^ (-1 : Int32))), .int (x4 &&& ((((15 : Int32) <<< ((x18 * (4 : Int32)) &&& 31)) ^^^ (-1 : Int32)) &&& (((15 : Int32) <<< (((x18 + (4 : Int32)) * (4 : Int32)) &&& 31)) ^^^ (-1 : Int32)))), .long (x10 &&& ((((255 : Int64) <<< (((x18 * (8 : Int32))).toInt64 &&& 63)) ^^^ (-1 : Int64)) &&& (((255 : Int64) <<< ((((x18 + (4 : Int32)) * (8 : Int32))).toInt64 &&& 63)) ^^^ (-1 : Int64))))]) rfl ?_
              refine wpl_stat (m' := 5) (me' := lm5) (as := [.long (x10 &&& ((((255 : Int64) <<< (((x18 * (8 : Int32))).toInt64 &&& 63)) ^^^ (-1 : Int64)) &&& (((255 : Int64) <<< ((((x18 + (4 : Int32)) * (8 : Int32))).toInt64 &&& 63)) ^^^ (-1 : Int64)))), .int (x4 &&& ((((15 : Int32) <<< ((x18 * (4 : Int32)) &&& 31)) ^^^ (-1 : Int32)) &&& (((15 : Int32) <<< (((x18 + (4 : Int32)) * (4 : Int32)) &&& 31)) ^^^ (-1 : Int32)))), .int (x2 &&& (((1 : Int32) <<< (x18 &&& 31)) ^^^ (-1 : Int32))), .int x3, .int x19, .int v23, .int v27]) (r := []) rfl rfl rfl rfl rfl ⟨(by first | decide | exact Nat.le_of_ble_eq_true rfl), (by first | decide | exact Nat.le_of_ble_eq_true rfl), (by first | decide | exact Nat.le_of_ble_eq_true rfl), (by first | decide | exact Nat.le_of_ble_eq_true rfl), rfl⟩ (lal_I (lalI.mono h101 fun v103 w102 hh => ?_))
              obtain ⟨s105, rfl, h104⟩ := hh
              refine wpl_sl (n := 2) (pc' := 1126) (ls' := [some (.ref 0), some (.ref 1), some (.int (x2 &&& (((1 : Int32) <<< (x18 &&& 31)) ^^^ (-1 : Int32)))), some (.int x3), some (.int v103), some (.int x5), some (.int x6), some (.int x7), some (.long x8), none, some (.long (x10 &&& ((((255 : Int64) <<< (((x18 * (8 : Int32))).toInt64 &&& 63)) ^^^ (-1 : Int64)) &&& (((255 : Int64) <<< ((((x18 + (4 : Int32)) * (8 : Int32))).toInt64 &&& 63)) ^^^ (-1 : Int64))))), none, some (.int x12), some (.int x13), none, some (.int x15), some (.int x16), some (.int x17), some (.int x18), some (.int x19), some (.int x20), some (.int v97), some (.int x22), some (.int y0), some (.int m19), some (.int v23), some (.int v27), none, none, none, none]) (st' := []) rfl ?_
              exact wpl_lle (ls := [some (.ref 0), some (.ref 1), some (.int (x2 &&& (((1 : Int32) <<< (x18 &&& 31)) ^^^ (-1 : Int32)))), some (.int x3), some (.int v103), some (.int x5), some (.int x6), some (.int x7), some (.long x8), none, some (.long (x10 &&& ((((255 : Int64) <<< (((x18 * (8 : Int32))).toInt64 &&& 63)) ^^^ (-1 : Int64)) &&& (((255 : Int64) <<< ((((x18 + (4 : Int32)) * (8 : Int32))).toInt64 &&& 63)) ^^^ (-1 : Int64))))), none, some (.int x12), none, none, none, none, none, none, none, some (.int x20), some (.int v97), none, none, none, none, none, none, none, none, none]) ⟨rfl, rfl, rfl, rfl, rfl, rfl, rfl, rfl, rfl, rfl, rfl, rfl, rfl, trivial⟩ h104
          · have h95 := h72.2 hc93
            refine wpl_sl (n := 2) (pc' := 672) (ls' := [some (.ref 0), some (.ref 1), some (.int x2), some (.int x3), some (.int x4), some (.int x5), some (.int x6), some (.int x7), some (.long x8), none, some (.long x10), none, some (.int x12), some (.int x13), none, some (.int x15), some (.int x16), some (.int x17), some (.int x18), some (.int x19), some (.int x20), none, some (.int x22), some (.int y0), some (.int m19), some (.int v23), some (.int v27), none, none, none, none]) (st' := [.int (6 : Int32), .int x13]) rfl ?_
            refine wpl_icmp (a := 942) (b := 675) rfl (by decide) rfl rfl (wpl_br (p := (6 : Int32) < x13) ⟨fun hc106 => ?_, fun hc106 => ?_⟩)
            · have h107 := h95.1 hc106
              refine wpl_sl (n := 7) (pc' := 954) (ls' := [some (.ref 0), some (.ref 1), some (.int x2), some (.int x3), some (.int x4), some (.int x5), some (.int x6), some (.int x7), some (.long x8), none, some (.long x10), none, some (.int x12), some (.int x13), none, some (.int x15), some (.int x16), some (.int x17), some (.int x18), some (.int x19), some (.int x20), none, some (.int x22), some (.int y0), some (.int m19), some (.int v23), some (.int v27), some (.int (x15 &&& (7 : Int32))), none, none, none]) (st' := [.int (x15 &&& (7 : Int32)), .int x17, .ref 1]) rfl ?_
              refine wpl_v1 (m' := 22) (me' := cm22) (as := [.int x17, .int (x15 &&& (7 : Int32))]) (r := []) rfl rfl rfl rfl rfl ⟨by decide, (by first | decide | exact Nat.le_of_ble_eq_true rfl), (by first | decide | exact Nat.le_of_ble_eq_true rfl), rfl⟩ (cal_I (calI.mono h107 fun v110 s109 h111 => ?_))
              refine wpl_sl (n := 3) (pc' := 962) (ls' := [some (.ref 0), some (.ref 1), some (.int x2), some (.int x3), some (.int x4), some (.int x5), some (.int x6), some (.int x7), some (.long x8), none, some (.long x10), none, some (.int x12), some (.int x13), none, some (.int x15), some (.int x16), some (.int x17), some (.int x18), some (.int x19), some (.int x20), some (.int v110), some (.int x22), some (.int y0), some (.int m19), some (.int v23), some (.int v27), some (.int (x15 &&& (7 : Int32))), none, none, none]) (st' := [.int (2 : Int32), .int x17]) rfl ?_
              refine wpl_icmp (a := 971) (b := 965) rfl (by decide) rfl rfl (wpl_br (p := x17 < (2 : Int32)) ⟨fun hc112 => ?_, fun hc112 => ?_⟩)
              · have h113 := h111.1 hc112
                refine wpl_sl (n := 2) (pc' := 968) (ls' := [some (.ref 0), some (.ref 1), some (.int x2), some (.int x3), some (.int x4), some (.int x5), some (.int x6), some (.int x7), some (.long x8), none, some (.long x10), none, some (.int x12), some (.int x13), none, some (.int x15), some (.int x16), some (.int x17), some (.int x18), some (.int x19), some (.int x20), some (.int v110), some (.int x22), some (.int y0), some (.int m19), some (.int v23), some (.int v27), some (.int (x15 &&& (7 : Int32))), none, none, none]) (st' := [.int (1 : Int32), .int (x15 &&& (7 : Int32))]) rfl ?_
                refine wpl_icmp (a := 978) (b := 971) rfl (by decide) rfl rfl (wpl_br (p := (x15 &&& (7 : Int32)) < (1 : Int32)) ⟨fun hc115 => ?_, fun hc115 => ?_⟩)
                · have h116 := h113.1 hc115
                  exact wpl_lle (ls := [some (.ref 0), some (.ref 1), some (.int x2), some (.int x3), some (.int x4), some (.int x5), some (.int x6), some (.int x7), some (.long x8), none, some (.long x10), none, some (.int x12), none, none, none, none, none, none, none, none, some (.int v110), none, none, none, none, none, none, none, none, none]) ⟨rfl, rfl, rfl, rfl, rfl, rfl, rfl, rfl, rfl, rfl, rfl, rfl, trivial⟩ h116
                · have h117 := h113.2 hc115
                  refine wpl_sl (n := 6) (pc' := 987) (ls' := [some (.ref 0), some (.ref 1), some (.int x2), some (.int x3), some (.int x4), some (.int x5), some (.int (0 : Int32)), some (.int (0 : Int32)), some (.long x8), none, some (.long x10), none, some (.int x12), some (.int x13), none, some (.int x15), some (.int x16), some (.int x17), some (.int x18), some (.int x19), some (.int x20), some (.int v110), some (.int x22), some (.int y0), some (.int m19), some (.int v23), some (.int v27), some (.int (x15 &&& (7 : Int32))), some (.int (0 : Int32)), none, none]) (st' := []) rfl ?_
                  exact wpl_lle (ls := [some (.ref 0), some (.ref 1), some (.int x2), some (.int x3), some (.int x4), none, some (.int (0 : Int32)), some (.int (0 : Int32)), some (.long x8), none, some (.long x10), none, some (.int x12), none, none, none, none, some (.int x17), none, none, some (.int x20), some (.int v110), none, none, none, none, none, some (.int (x15 &&& (7 : Int32))), some (.int (0 : Int32)), none, none]) ⟨rfl, rfl, rfl, rfl, rfl, rfl, rfl, rfl, rfl, rfl, rfl, rfl, rfl, rfl, rfl, trivial⟩ h117
              · have h114 := h111.2 hc112
                exact wpl_lle (ls := [some (.ref 0), some (.ref 1), some (.int x2), some (.int x3), some (.int x4), some (.int x5), some (.int x6), some (.int x7), some (.long x8), none, some (.long x10), none, some (.int x12), none, none, none, none, none, none, none, none, some (.int v110), none, none, none, none, none, none, none, none, none]) ⟨rfl, rfl, rfl, rfl, rfl, rfl, rfl, rfl, rfl, rfl, rfl, rfl, trivial⟩ h114
            · have h108 := h95.2 hc106
              refine wpl_sl (n := 8) (pc' := 687) (ls' := [some (.ref 0), some (.ref 1), some (.int x2), some (.int x3), some (.int x4), some (.int x5), some (.int x6), some (.int x7), some (.long x8), none, some (.long x10), none, some (.int x12), some (.int x13), none, some (.int x15), some (.int x16), some (.int x17), some (.int x18), some (.int x19), some (.int x20), none, some (.int x22), some (.int y0), some (.int m19), some (.int v23), some (.int v27), some (.int ((x17 * (4 : Int32)) + x18)), none, none, none]) (st' := [.int (2 : Int32), .int x17]) rfl ?_
              have hm119 : ∀ m118, m118 = (if x17 < (2 : Int32) then (if x18 < (4 : Int32) then ((XT.ushrL x10 (((x17 * (4 : Int32)) + x18) * (8 : Int32))) &&& (255 : Int64)) else (0 : Int64)) else (0 : Int64)) → wplI PP QQ (some (N, sg)) 0 lm0 712 [some (.ref 0), some (.ref 1), some (.int x2), some (.int x3), some (.int x4), some (.int x5), some (.int x6), some (.int x7), some (.long x8), none, some (.long x10), none, some (.int x12), some (.int x13), none, some (.int x15), some (.int x16), some (.int x17), some (.int x18), some (.int x19), some (.int x20), none, some (.int x22), some (.int y0), some (.int m19), some (.int v23), some (.int v27), some (.int ((x17 * (4 : Int32)) + x18)), none, none, none] [.long m118] (W1 s29) Q := by
                intro m118 em118
                have h120 := h108 m118 em118
                exact wpl_lle (ls := [some (.ref 0), some (.ref 1), some (.int x2), some (.int x3), some (.int x4), some (.int x5), some (.int x6), some (.int x7), some (.long x8), none, some (.long x10), none, some (.int x12), some (.int x13), none, none, none, some (.int x17), some (.int x18), none, some (.int x20), none, some (.int x22), some (.int y0), none, none, none, some (.int ((x17 * (4 : Int32)) + x18)), none, none, none]) ⟨rfl, rfl, rfl, rfl, rfl, rfl, rfl, rfl, rfl, rfl, rfl, rfl, rfl, rfl, rfl, rfl, rfl, rfl, trivial⟩ h120
              refine wpl_icmp (a := 711) (b := 690) rfl (by decide) rfl rfl (wpl_br (p := x17 < (2 : Int32)) ⟨fun hc121 => ?_, fun hc121 => ?_⟩)
              · refine wpl_sl (n := 2) (pc' := 693) (ls' := [some (.ref 0), some (.ref 1), some (.int x2), some (.int x3), some (.int x4), some (.int x5), some (.int x6), some (.int x7), some (.long x8), none, some (.long x10), none, some (.int x12), some (.int x13), none, some (.int x15), some (.int x16), some (.int x17), some (.int x18), some (.int x19), some (.int x20), none, some (.int x22), some (.int y0), some (.int m19), some (.int v23), some (.int v27), some (.int ((x17 * (4 : Int32)) + x18)), none, none, none]) (st' := [.int (4 : Int32), .int x18]) rfl ?_
                refine wpl_icmp (a := 711) (b := 696) rfl (by decide) rfl rfl (wpl_br (p := x18 < (4 : Int32)) ⟨fun hc122 => ?_, fun hc122 => ?_⟩)
                · refine wpl_sl (n := 8) (pc' := 712) (ls' := [some (.ref 0), some (.ref 1), some (.int x2), some (.int x3), some (.int x4), some (.int x5), some (.int x6), some (.int x7), some (.long x8), none, some (.long x10), none, some (.int x12), some (.int x13), none, some (.int x15), some (.int x16), some (.int x17), some (.int x18), some (.int x19), some (.int x20), none, some (.int x22), some (.int y0), some (.int m19), some (.int v23), some (.int v27), some (.int ((x17 * (4 : Int32)) + x18)), none, none, none]) (st' := [.long ((XT.ushrL x10 (((x17 * (4 : Int32)) + x18) * (8 : Int32))) &&& (255 : Int64))]) rfl ?_
                  first | exact hm119 _ (by simp only [if_pos hc121, if_pos hc122]) | exact wpl_lle (by repeat (first | exact trivial | refine ⟨rfl, ?_⟩)) (hm119 _ (by simp only [if_pos hc121, if_pos hc122]))
                · refine wpl_sl (n := 1) (pc' := 712) (ls' := [some (.ref 0), some (.ref 1), some (.int x2), some (.int x3), some (.int x4), some (.int x5), some (.int x6), some (.int x7), some (.long x8), none, some (.long x10), none, some (.int x12), some (.int x13), none, some (.int x15), some (.int x16), some (.int x17), some (.int x18), some (.int x19), some (.int x20), none, some (.int x22), some (.int y0), some (.int m19), some (.int v23), some (.int v27), some (.int ((x17 * (4 : Int32)) + x18)), none, none, none]) (st' := [.long (0 : Int64)]) rfl ?_
                  first | exact hm119 _ (by simp only [if_pos hc121, if_neg hc122]) | exact wpl_lle (by repeat (first | exact trivial | refine ⟨rfl, ?_⟩)) (hm119 _ (by simp only [if_pos hc121, if_neg hc122]))
              · refine wpl_sl (n := 1) (pc' := 712) (ls' := [some (.ref 0), some (.ref 1), some (.int x2), some (.int x3), some (.int x4), some (.int x5), some (.int x6), some (.int x7), some (.long x8), none, some (.long x10), none, some (.int x12), some (.int x13), none, some (.int x15), some (.int x16), some (.int x17), some (.int x18), some (.int x19), some (.int x20), none, some (.int x22), some (.int y0), some (.int m19), some (.int v23), some (.int v27), some (.int ((x17 * (4 : Int32)) + x18)), none, none, none]) (st' := [.long (0 : Int64)]) rfl ?_
                first | exact hm119 _ (by simp only [if_neg hc121]) | exact wpl_lle (by repeat (first | exact trivial | refine ⟨rfl, ?_⟩)) (hm119 _ (by simp only [if_neg hc121]))
  refine wpl_icmp (a := 183) (b := 171) rfl (by decide) rfl rfl (wpl_br (p := x19 < (2 : Int32)) ⟨fun hc123 => ?_, fun hc123 => ?_⟩)
  · refine wpl_sl (n := 8) (pc' := 184) (ls' := [some (.ref 0), some (.ref 1), some (.int x2), some (.int x3), some (.int x4), some (.int x5), some (.int x6), some (.int x7), some (.long x8), none, some (.long x10), none, some (.int x12), some (.int x13), none, some (.int x15), some (.int x16), some (.int x17), some (.int x18), some (.int x19), some (.int x20), none, some (.int x22), some (.int y0), none, none, none, none, none, none, none]) (st' := [.int ((x3 >>> ((x19 * (4 : Int32)) &&& 31)) &&& (15 : Int32))]) rfl ?_
    first | exact hm20 _ (by simp only [if_pos hc123]) | exact wpl_lle (by repeat (first | exact trivial | refine ⟨rfl, ?_⟩)) (hm20 _ (by simp only [if_pos hc123]))
  · refine wpl_sl (n := 1) (pc' := 184) (ls' := [some (.ref 0), some (.ref 1), some (.int x2), some (.int x3), some (.int x4), some (.int x5), some (.int x6), some (.int x7), some (.long x8), none, some (.long x10), none, some (.int x12), some (.int x13), none, some (.int x15), some (.int x16), some (.int x17), some (.int x18), some (.int x19), some (.int x20), none, some (.int x22), some (.int y0), none, none, none, none, none, none, none]) (st' := [.int (0 : Int32)]) rfl ?_
    first | exact hm20 _ (by simp only [if_neg hc123]) | exact wpl_lle (by repeat (first | exact trivial | refine ⟨rfl, ?_⟩)) (hm20 _ (by simp only [if_neg hc123]))
theorem l0_1126 (N : Nat) (sg : Nat → Int32) (x2 : Int32) (x3 : Int32) (x4 : Int32) (x5 : Int32) (x6 : Int32) (x7 : Int32) (x8 : Int64) (x10 : Int64) (x12 : Int32) (x20 : Int32) (x21 : Int32)  (Q : Int32 → Wd → Prop) (h : ((x21 = x20) → lalI PP QQ (some (N, sg)) 6 [.ref 1, .int x2, .int x3, .long x10, .int x4, .int x5, .int x6, .int x7] (W1 s) (fun v128 w127 => ∃ s130, w127 = W1 s130 ∧ (((v128 = (0 : Int32)) → Q (0 : Int32) (W1 s130)) ∧ (¬ (v128 = (0 : Int32)) → wplI PP QQ (some (N, sg)) 0 lm0 36 [some (.ref 0), some (.ref 1), some (.int x2), some (.int x3), some (.int x4), some (.int x5), some (.int x6), some (.int x7), some (.long x8), none, some (.long x10), none, some (.int (x12 + (4 : Int32))), none, none, none, none, none, none, none, none, none, none, none, none, none, none, none, none, none, none] [] (W1 s130) Q)))) ∧ (¬ (x21 = x20) → Q (0 : Int32) (W1 s))) : wplI PP QQ (some (N, sg)) 0 lm0 1126 [some (.ref 0), some (.ref 1), some (.int x2), some (.int x3), some (.int x4), some (.int x5), some (.int x6), some (.int x7), some (.long x8), none, some (.long x10), none, some (.int x12), none, none, none, none, none, none, none, some (.int x20), some (.int x21), none, none, none, none, none, none, none, none, none] [] (W1 s) Q := by
  refine wpl_sl (n := 2) (pc' := 1130) (ls' := [some (.ref 0), some (.ref 1), some (.int x2), some (.int x3), some (.int x4), some (.int x5), some (.int x6), some (.int x7), some (.long x8), none, some (.long x10), none, some (.int x12), none, none, none, none, none, none, none, some (.int x20), some (.int x21), none, none, none, none, none, none, none, none, none]) (st' := [.int x20, .int x21]) rfl ?_
  refine wpl_icmp (a := 1152) (b := 1133) rfl (by decide) rfl rfl (wpl_br (p := x21 = x20) ⟨fun hc124 => ?_, fun hc124 => ?_⟩)
  · have h125 := h.1 hc124
    refine wpl_sl (n := 8) (pc' := 1146) (ls' := [some (.ref 0), some (.ref 1), some (.int x2), some (.int x3), some (.int x4), some (.int x5), some (.int x6), some (.int x7), some (.long x8), none, some (.long x10), none, some (.int x12), none, none, none, none, none, none, none, some (.int x20), some (.int x21), none, none, none, none, none, none, none, none, none]) (st' := [.int x7, .int x6, .int x5, .int x4, .long x10, .int x3, .int x2, .ref 1]) rfl ?_
    refine wpl_stat (m' := 6) (me' := lm6) (as := [.ref 1, .int x2, .int x3, .long x10, .int x4, .int x5, .int x6, .int x7]) (r := []) rfl rfl rfl rfl rfl ⟨(by first | decide | exact Nat.le_of_ble_eq_true rfl), (by first | decide | exact Nat.le_of_ble_eq_true rfl), (by first | decide | exact Nat.le_of_ble_eq_true rfl), (by first | decide | exact Nat.le_of_ble_eq_true rfl), rfl⟩ (lal_I (lalI.mono h125 fun v128 w127 hh => ?_))
    obtain ⟨s130, rfl, h129⟩ := hh
    refine wpl_if (a := 1154) (b := 1152) rfl (by decide) rfl rfl (wpl_br (p := v128 = (0 : Int32)) ⟨fun hc131 => ?_, fun hc131 => ?_⟩)
    · have h132 := h129.1 hc131
      refine wpl_sl (n := 1) (pc' := 1153) (ls' := [some (.ref 0), some (.ref 1), some (.int x2), some (.int x3), some (.int x4), some (.int x5), some (.int x6), some (.int x7), some (.long x8), none, some (.long x10), none, some (.int x12), none, none, none, none, none, none, none, some (.int x20), some (.int x21), none, none, none, none, none, none, none, none, none]) (st' := [.int (0 : Int32)]) rfl ?_
      exact wpl_ret rfl rfl rfl ⟨(0 : Int32), rfl, h132⟩
    · have h133 := h129.2 hc131
      refine wpl_sl (n := 2) (pc' := 36) (ls' := [some (.ref 0), some (.ref 1), some (.int x2), some (.int x3), some (.int x4), some (.int x5), some (.int x6), some (.int x7), some (.long x8), none, some (.long x10), none, some (.int (x12 + (4 : Int32))), none, none, none, none, none, none, none, some (.int x20), some (.int x21), none, none, none, none, none, none, none, none, none]) (st' := []) rfl ?_
      exact wpl_lle (ls := [some (.ref 0), some (.ref 1), some (.int x2), some (.int x3), some (.int x4), some (.int x5), some (.int x6), some (.int x7), some (.long x8), none, some (.long x10), none, some (.int (x12 + (4 : Int32))), none, none, none, none, none, none, none, none, none, none, none, none, none, none, none, none, none, none]) ⟨rfl, rfl, rfl, rfl, rfl, rfl, rfl, rfl, rfl, rfl, rfl, trivial⟩ h133
  · have h126 := h.2 hc124
    refine wpl_sl (n := 1) (pc' := 1153) (ls' := [some (.ref 0), some (.ref 1), some (.int x2), some (.int x3), some (.int x4), some (.int x5), some (.int x6), some (.int x7), some (.long x8), none, some (.long x10), none, some (.int x12), none, none, none, none, none, none, none, some (.int x20), some (.int x21), none, none, none, none, none, none, none, none, none]) (st' := [.int (0 : Int32)]) rfl ?_
    exact wpl_ret rfl rfl rfl ⟨(0 : Int32), rfl, h126⟩
theorem l0_325 (N : Nat) (sg : Nat → Int32) (x2 : Int32) (x3 : Int32) (x4 : Int32) (x5 : Int32) (x6 : Int32) (x7 : Int32) (x8 : Int64) (x10 : Int64) (x12 : Int32) (x21 : Int32)  (Q : Int32 → Wd → Prop) (h : wplI PP QQ (some (N, sg)) 0 lm0 1126 [some (.ref 0), some (.ref 1), some (.int x2), some (.int x3), some (.int x4), some (.int x5), some (.int x6), some (.int x7), some (.long x8), none, some (.long x10), none, some (.int x12), none, none, none, none, none, none, none, some (.int (-1 : Int32)), some (.int x21), none, none, none, none, none, none, none, none, none] [] (W1 s) Q) : wplI PP QQ (some (N, sg)) 0 lm0 325 [some (.ref 0), some (.ref 1), some (.int x2), some (.int x3), some (.int x4), some (.int x5), some (.int x6), some (.int x7), some (.long x8), none, some (.long x10), none, some (.int x12), none, none, none, none, none, none, none, none, some (.int x21), none, none, none, none, none, none, none, none, none] [] (W1 s) Q := by
  refine wpl_sl (n := 3) (pc' := 1126) (ls' := [some (.ref 0), some (.ref 1), some (.int x2), some (.int x3), some (.int x4), some (.int x5), some (.int x6), some (.int x7), some (.long x8), none, some (.long x10), none, some (.int x12), none, none, none, none, none, none, none, some (.int (-1 : Int32)), some (.int x21), none, none, none, none, none, none, none, none, none]) (st' := []) rfl ?_
  exact h
theorem l0_438 (N : Nat) (sg : Nat → Int32) (x2 : Int32) (x3 : Int32) (x4 : Int32) (x5 : Int32) (x6 : Int32) (x7 : Int32) (x8 : Int64) (x10 : Int64) (x12 : Int32) (x21 : Int32)  (Q : Int32 → Wd → Prop) (h : wplI PP QQ (some (N, sg)) 0 lm0 1126 [some (.ref 0), some (.ref 1), some (.int x2), some (.int x3), some (.int x4), some (.int x5), some (.int x6), some (.int x7), some (.long x8), none, some (.long x10), none, some (.int x12), none, none, none, none, none, none, none, some (.int (-1 : Int32)), some (.int x21), none, none, none, none, none, none, none, none, none] [] (W1 s) Q) : wplI PP QQ (some (N, sg)) 0 lm0 438 [some (.ref 0), some (.ref 1), some (.int x2), some (.int x3), some (.int x4), some (.int x5), some (.int x6), some (.int x7), some (.long x8), none, some (.long x10), none, some (.int x12), none, none, none, none, none, none, none, none, some (.int x21), none, none, none, none, none, none, none, none, none] [] (W1 s) Q := by
  refine wpl_sl (n := 3) (pc' := 1126) (ls' := [some (.ref 0), some (.ref 1), some (.int x2), some (.int x3), some (.int x4), some (.int x5), some (.int x6), some (.int x7), some (.long x8), none, some (.long x10), none, some (.int x12), none, none, none, none, none, none, none, some (.int (-1 : Int32)), some (.int x21), none, none, none, none, none, none, none, none, none]) (st' := []) rfl ?_
  exact h
theorem l0_971 (N : Nat) (sg : Nat → Int32) (x2 : Int32) (x3 : Int32) (x4 : Int32) (x5 : Int32) (x6 : Int32) (x7 : Int32) (x8 : Int64) (x10 : Int64) (x12 : Int32) (x21 : Int32)  (Q : Int32 → Wd → Prop) (h : wplI PP QQ (some (N, sg)) 0 lm0 1126 [some (.ref 0), some (.ref 1), some (.int x2), some (.int x3), some (.int x4), some (.int x5), some (.int x6), some (.int x7), some (.long x8), none, some (.long x10), none, some (.int x12), none, none, none, none, none, none, none, some (.int (-6 : Int32)), some (.int x21), none, none, none, none, none, none, none, none, none] [] (W1 s) Q) : wplI PP QQ (some (N, sg)) 0 lm0 971 [some (.ref 0), some (.ref 1), some (.int x2), some (.int x3), some (.int x4), some (.int x5), some (.int x6), some (.int x7), some (.long x8), none, some (.long x10), none, some (.int x12), none, none, none, none, none, none, none, none, some (.int x21), none, none, none, none, none, none, none, none, none] [] (W1 s) Q := by
  refine wpl_sl (n := 3) (pc' := 1126) (ls' := [some (.ref 0), some (.ref 1), some (.int x2), some (.int x3), some (.int x4), some (.int x5), some (.int x6), some (.int x7), some (.long x8), none, some (.long x10), none, some (.int x12), none, none, none, none, none, none, none, some (.int (-6 : Int32)), some (.int x21), none, none, none, none, none, none, none, none, none]) (st' := []) rfl ?_
  exact h
theorem l0_987 (N : Nat) (sg : Nat → Int32) (x2 : Int32) (x3 : Int32) (x4 : Int32) (x6 : Int32) (x7 : Int32) (x8 : Int64) (x10 : Int64) (x12 : Int32) (x17 : Int32) (x20 : Int32) (x21 : Int32) (x27 : Int32) (x28 : Int32)  (Q : Int32 → Wd → Prop) (h : ((x28 < (4 : Int32)) → ((x20 < x27) → lalI PP QQ (some (N, sg)) 4 [.long x10, .int x4, .int x2, .int x3, .int ((x17 * (4 : Int32)) + x28)] (W1 s) (fun v141 w140 => ∃ s143, w140 = W1 s143 ∧ (∀ m144, m144 = (if (0 : Int32) < v141 then (if (XT.cmpL ((XT.ushrL x10 (((x17 * (4 : Int32)) + x28) * (8 : Int32))) &&& (32 : Int64)) (0 : Int64)) = (0 : Int32) then (if (XT.cmpL ((XT.ushrL x10 (((x17 * (4 : Int32)) + x28) * (8 : Int32))) &&& (48 : Int64)) (0 : Int64)) = (0 : Int32) then x4 else (x4 &&& (((15 : Int32) <<< ((((x17 * (4 : Int32)) + x28) * (4 : Int32)) &&& 31)) ^^^ (-1 : Int32)))) else (if (XT.cmpL ((XT.ushrL (x10 ||| ((64 : Int64) <<< (((((x17 * (4 : Int32)) + x28) * (8 : Int32))).toInt64 &&& 63))) (((x17 * (4 : Int32)) + x28) * (8 : Int32))) &&& (48 : Int64)) (0 : Int64)) = (0 : Int32) then x4 else (x4 &&& (((15 : Int32) <<< ((((x17 * (4 : Int32)) + x28) * (4 : Int32)) &&& 31)) ^^^ (-1 : Int32))))) else x4) → ∀ m145, m145 = (if (0 : Int32) < v141 then (x6 ||| (x28 <<< ((x20 * (4 : Int32)) &&& 31))) else x6) → ∀ m146, m146 = (if (0 : Int32) < v141 then (x7 ||| (v141 <<< ((x20 * (4 : Int32)) &&& 31))) else x7) → ∀ m147, m147 = (if (0 : Int32) < v141 then (if (XT.cmpL ((XT.ushrL x10 (((x17 * (4 : Int32)) + x28) * (8 : Int32))) &&& (32 : Int64)) (0 : Int64)) = (0 : Int32) then x10 else (x10 ||| ((64 : Int64) <<< (((((x17 * (4 : Int32)) + x28) * (8 : Int32))).toInt64 &&& 63)))) else x10) → ∀ m148, m148 = (if (0 : Int32) < v141 then (x20 + (1 : Int32)) else x20) → (wplI PP QQ (some (N, sg)) 0 lm0 987 [some (.ref 0), some (.ref 1), some (.int x2), some (.int x3), some (.int m144), none, some (.int m145), some (.int m146), some (.long x8), none, some (.long m147), none, some (.int x12), none, none, none, none, some (.int x17), none, none, some (.int m148), some (.int x21), none, none, none, none, none, some (.int x27), some (.int (x28 + (1 : Int32))), none, none] [] (W1 s143) Q)))) ∧ (¬ (x20 < x27) → wplI PP QQ (some (N, sg)) 0 lm0 1122 [some (.ref 0), some (.ref 1), some (.int x2), some (.int x3), some (.int x4), none, some (.int x6), some (.int x7), some (.long x8), none, some (.long x10), none, some (.int x12), none, none, none, none, none, none, none, some (.int x20), some (.int x21), none, none, none, none, none, none, none, none, none] [] (W1 s) Q)) ∧ (¬ (x28 < (4 : Int32)) → wplI PP QQ (some (N, sg)) 0 lm0 1122 [some (.ref 0), some (.ref 1), some (.int x2), some (.int x3), some (.int x4), none, some (.int x6), some (.int x7), some (.long x8), none, some (.long x10), none, some (.int x12), none, none, none, none, none, none, none, some (.int x20), some (.int x21), none, none, none, none, none, none, none, none, none] [] (W1 s) Q)) : wplI PP QQ (some (N, sg)) 0 lm0 987 [some (.ref 0), some (.ref 1), some (.int x2), some (.int x3), some (.int x4), none, some (.int x6), some (.int x7), some (.long x8), none, some (.long x10), none, some (.int x12), none, none, none, none, some (.int x17), none, none, some (.int x20), some (.int x21), none, none, none, none, none, some (.int x27), some (.int x28), none, none] [] (W1 s) Q := by
  refine wpl_sl (n := 2) (pc' := 990) (ls' := [some (.ref 0), some (.ref 1), some (.int x2), some (.int x3), some (.int x4), none, some (.int x6), some (.int x7), some (.long x8), none, some (.long x10), none, some (.int x12), none, none, none, none, some (.int x17), none, none, some (.int x20), some (.int x21), none, none, none, none, none, some (.int x27), some (.int x28), none, none]) (st' := [.int (4 : Int32), .int x28]) rfl ?_
  refine wpl_icmp (a := 1122) (b := 993) rfl (by decide) rfl rfl (wpl_br (p := x28 < (4 : Int32)) ⟨fun hc134 => ?_, fun hc134 => ?_⟩)
  · have h135 := h.1 hc134
    refine wpl_sl (n := 2) (pc' := 997) (ls' := [some (.ref 0), some (.ref 1), some (.int x2), some (.int x3), some (.int x4), none, some (.int x6), some (.int x7), some (.long x8), none, some (.long x10), none, some (.int x12), none, none, none, none, some (.int x17), none, none, some (.int x20), some (.int x21), none, none, none, none, none, some (.int x27), some (.int x28), none, none]) (st' := [.int x27, .int x20]) rfl ?_
    refine wpl_icmp (a := 1122) (b := 1000) rfl (by decide) rfl rfl (wpl_br (p := x20 < x27) ⟨fun hc137 => ?_, fun hc137 => ?_⟩)
    · have h138 := h135.1 hc137
      refine wpl_sl (n := 5) (pc' := 1007) (ls' := [some (.ref 0), some (.ref 1), some (.int x2), some (.int x3), some (.int x4), none, some (.int x6), some (.int x7), some (.long x8), none, some (.long x10), none, some (.int x12), none, none, none, none, some (.int x17), none, none, some (.int x20), some (.int x21), none, none, none, none, none, some (.int x27), some (.int x28), none, none]) (st' := [.int ((x17 * (4 : Int32)) + x28)]) rfl ?_
      refine wpl_sl (n := 5) (pc' := 1015) (ls' := [some (.ref 0), some (.ref 1), some (.int x2), some (.int x3), some (.int x4), none, some (.int x6), some (.int x7), some (.long x8), none, some (.long x10), none, some (.int x12), none, none, none, none, some (.int x17), none, none, some (.int x20), some (.int x21), none, none, none, none, none, some (.int x27), some (.int x28), some (.int ((x17 * (4 : Int32)) + x28)), none]) (st' := [.int x3, .int x2, .int x4, .long x10]) rfl ?_
      refine wpl_sl (n := 1) (pc' := 1017) (ls' := [some (.ref 0), some (.ref 1), some (.int x2), some (.int x3), some (.int x4), none, some (.int x6), some (.int x7), some (.long x8), none, some (.long x10), none, some (.int x12), none, none, none, none, some (.int x17), none, none, some (.int x20), some (.int x21), none, none, none, none, none, some (.int x27), some (.int x28), some (.int ((x17 * (4 : Int32)) + x28)), none]) (st' := [.int ((x17 * (4 : Int32)) + x28), .int x3, .int x2, .int x4, .long x10]) rfl ?_
      refine wpl_stat (m' := 4) (me' := lm4) (as := [.long x10, .int x4, .int x2, .int x3, .int ((x17 * (4 : Int32)) + x28)]) (r := []) rfl rfl rfl rfl rfl ⟨(by first | decide | exact Nat.le_of_ble_eq_true rfl), (by first | decide | exact Nat.le_of_ble_eq_true rfl), (by first | decide | exact Nat.le_of_ble_eq_true rfl), (by first | decide | exact Nat.le_of_ble_eq_true rfl), rfl⟩ (lal_I (lalI.mono h138 fun v141 w140 hh => ?_))
      obtain ⟨s143, rfl, h142⟩ := hh
      refine wpl_sl (n := 2) (pc' := 1024) (ls' := [some (.ref 0), some (.ref 1), some (.int x2), some (.int x3), some (.int x4), none, some (.int x6), some (.int x7), some (.long x8), none, some (.long x10), none, some (.int x12), none, none, none, none, some (.int x17), none, none, some (.int x20), some (.int x21), none, none, none, none, none, some (.int x27), some (.int x28), some (.int ((x17 * (4 : Int32)) + x28)), some (.int v141)]) (st' := [.int v141]) rfl ?_
      have hm149 : ∀ m144, m144 = (if (0 : Int32) < v141 then (if (XT.cmpL ((XT.ushrL x10 (((x17 * (4 : Int32)) + x28) * (8 : Int32))) &&& (32 : Int64)) (0 : Int64)) = (0 : Int32) then (if (XT.cmpL ((XT.ushrL x10 (((x17 * (4 : Int32)) + x28) * (8 : Int32))) &&& (48 : Int64)) (0 : Int64)) = (0 : Int32) then x4 else (x4 &&& (((15 : Int32) <<< ((((x17 * (4 : Int32)) + x28) * (4 : Int32)) &&& 31)) ^^^ (-1 : Int32)))) else (if (XT.cmpL ((XT.ushrL (x10 ||| ((64 : Int64) <<< (((((x17 * (4 : Int32)) + x28) * (8 : Int32))).toInt64 &&& 63))) (((x17 * (4 : Int32)) + x28) * (8 : Int32))) &&& (48 : Int64)) (0 : Int64)) = (0 : Int32) then x4 else (x4 &&& (((15 : Int32) <<< ((((x17 * (4 : Int32)) + x28) * (4 : Int32)) &&& 31)) ^^^ (-1 : Int32))))) else x4) → ∀ m145, m145 = (if (0 : Int32) < v141 then (x6 ||| (x28 <<< ((x20 * (4 : Int32)) &&& 31))) else x6) → ∀ m146, m146 = (if (0 : Int32) < v141 then (x7 ||| (v141 <<< ((x20 * (4 : Int32)) &&& 31))) else x7) → ∀ m147, m147 = (if (0 : Int32) < v141 then (if (XT.cmpL ((XT.ushrL x10 (((x17 * (4 : Int32)) + x28) * (8 : Int32))) &&& (32 : Int64)) (0 : Int64)) = (0 : Int32) then x10 else (x10 ||| ((64 : Int64) <<< (((((x17 * (4 : Int32)) + x28) * (8 : Int32))).toInt64 &&& 63)))) else x10) → ∀ m148, m148 = (if (0 : Int32) < v141 then (x20 + (1 : Int32)) else x20) → wplI PP QQ (some (N, sg)) 0 lm0 1116 [some (.ref 0), some (.ref 1), some (.int x2), some (.int x3), some (.int m144), none, some (.int m145), some (.int m146), some (.long x8), none, some (.long m147), none, some (.int x12), none, none, none, none, some (.int x17), none, none, some (.int m148), some (.int x21), none, none, none, none, none, some (.int x27), some (.int x28), some (.int ((x17 * (4 : Int32)) + x28)), some (.int v141)] [] (W1 s143) Q := by
        intro m144 em144 m145 em145 m146 em146 m147 em147 m148 em148
        have h150 := h142 m144 em144 m145 em145 m146 em146 m147 em147 m148 em148
        refine wpl_sl (n := 2) (pc' := 987) (ls' := [some (.ref 0), some (.ref 1), some (.int x2), some (.int x3), some (.int m144), none, some (.int m145), some (.int m146), some (.long x8), none, some (.long m147), none, some (.int x12), none, none, none, none, some (.int x17), none, none, some (.int m148), some (.int x21), none, none, none, none, none, some (.int x27), some (.int (x28 + (1 : Int32))), some (.int ((x17 * (4 : Int32)) + x28)), some (.int v141)]) (st' := []) rfl ?_
        exact wpl_lle (ls := [some (.ref 0), some (.ref 1), some (.int x2), some (.int x3), some (.int m144), none, some (.int m145), some (.int m146), some (.long x8), none, some (.long m147), none, some (.int x12), none, none, none, none, some (.int x17), none, none, some (.int m148), some (.int x21), none, none, none, none, none, some (.int x27), some (.int (x28 + (1 : Int32))), none, none]) ⟨rfl, rfl, rfl, rfl, rfl, rfl, rfl, rfl, rfl, rfl, rfl, rfl, rfl, rfl, rfl, trivial⟩ h150
      refine wpl_if (a := 1116) (b := 1027) rfl (by decide) rfl rfl (wpl_br (p := (0 : Int32) < v141) ⟨fun hc151 => ?_, fun hc151 => ?_⟩)
      · refine wpl_sl (n := 5) (pc' := 1035) (ls' := [some (.ref 0), some (.ref 1), some (.int x2), some (.int x3), some (.int x4), none, some (.int x6), some (.int x7), some (.long x8), none, some (.long x10), none, some (.int x12), none, none, none, none, some (.int x17), none, none, some (.int x20), some (.int x21), none, none, none, none, none, some (.int x27), some (.int x28), some (.int ((x17 * (4 : Int32)) + x28)), some (.int v141)]) (st' := [.int (x20 * (4 : Int32)), .int x28, .int x6]) rfl ?_
        refine wpl_sl (n := 5) (pc' := 1043) (ls' := [some (.ref 0), some (.ref 1), some (.int x2), some (.int x3), some (.int x4), none, some (.int (x6 ||| (x28 <<< ((x20 * (4 : Int32)) &&& 31)))), some (.int x7), some (.long x8), none, some (.long x10), none, some (.int x12), none, none, none, none, some (.int x17), none, none, some (.int x20), some (.int x21), none, none, none, none, none, some (.int x27), some (.int x28), some (.int ((x17 * (4 : Int32)) + x28)), some (.int v141)]) (st' := [.int v141, .int x7]) rfl ?_
        refine wpl_sl (n := 5) (pc' := 1049) (ls' := [some (.ref 0), some (.ref 1), some (.int x2), some (.int x3), some (.int x4), none, some (.int (x6 ||| (x28 <<< ((x20 * (4 : Int32)) &&& 31)))), some (.int x7), some (.long x8), none, some (.long x10), none, some (.int x12), none, none, none, none, some (.int x17), none, none, some (.int x20), some (.int x21), none, none, none, none, none, some (.int x27), some (.int x28), some (.int ((x17 * (4 : Int32)) + x28)), some (.int v141)]) (st' := [.int (x7 ||| (v141 <<< ((x20 * (4 : Int32)) &&& 31)))]) rfl ?_
        refine wpl_sl (n := 5) (pc' := 1060) (ls' := [some (.ref 0), some (.ref 1), some (.int x2), some (.int x3), some (.int x4), none, some (.int (x6 ||| (x28 <<< ((x20 * (4 : Int32)) &&& 31)))), some (.int (x7 ||| (v141 <<< ((x20 * (4 : Int32)) &&& 31)))), some (.long x8), none, some (.long x10), none, some (.int x12), none, none, none, none, some (.int x17), none, none, some (.int (x20 + (1 : Int32))), some (.int x21), none, none, none, none, none, some (.int x27), some (.int x28), some (.int ((x17 * (4 : Int32)) + x28)), some (.int v141)]) (st' := [.int (8 : Int32), .int ((x17 * (4 : Int32)) + x28), .long x10]) rfl ?_
        refine wpl_sl (n := 5) (pc' := 1067) (ls' := [some (.ref 0), some (.ref 1), some (.int x2), some (.int x3), some (.int x4), none, some (.int (x6 ||| (x28 <<< ((x20 * (4 : Int32)) &&& 31)))), some (.int (x7 ||| (v141 <<< ((x20 * (4 : Int32)) &&& 31)))), some (.long x8), none, some (.long x10), none, some (.int x12), none, none, none, none, some (.int x17), none, none, some (.int (x20 + (1 : Int32))), some (.int x21), none, none, none, none, none, some (.int x27), some (.int x28), some (.int ((x17 * (4 : Int32)) + x28)), some (.int v141)]) (st' := [.long (0 : Int64), .long ((XT.ushrL x10 (((x17 * (4 : Int32)) + x28) * (8 : Int32))) &&& (32 : Int64))]) rfl ?_
        refine wpl_sl (n := 1) (pc' := 1068) (ls' := [some (.ref 0), some (.ref 1), some (.int x2), some (.int x3), some (.int x4), none, some (.int (x6 ||| (x28 <<< ((x20 * (4 : Int32)) &&& 31)))), some (.int (x7 ||| (v141 <<< ((x20 * (4 : Int32)) &&& 31)))), some (.long x8), none, some (.long x10), none, some (.int x12), none, none, none, none, some (.int x17), none, none, some (.int (x20 + (1 : Int32))), some (.int x21), none, none, none, none, none, some (.int x27), some (.int x28), some (.int ((x17 * (4 : Int32)) + x28)), some (.int v141)]) (st' := [.int (XT.cmpL ((XT.ushrL x10 (((x17 * (4 : Int32)) + x28) * (8 : Int32))) &&& (32 : Int64)) (0 : Int64))]) rfl ?_
        refine wpl_if (a := 1085) (b := 1071) rfl (by decide) rfl rfl (wpl_br (p := (XT.cmpL ((XT.ushrL x10 (((x17 * (4 : Int32)) + x28) * (8 : Int32))) &&& (32 : Int64)) (0 : Int64)) = (0 : Int32)) ⟨fun hc152 => ?_, fun hc152 => ?_⟩)
        · refine wpl_sl (n := 5) (pc' := 1093) (ls' := [some (.ref 0), some (.ref 1), some (.int x2), some (.int x3), some (.int x4), none, some (.int (x6 ||| (x28 <<< ((x20 * (4 : Int32)) &&& 31)))), some (.int (x7 ||| (v141 <<< ((x20 * (4 : Int32)) &&& 31)))), some (.long x8), none, some (.long x10), none, some (.int x12), none, none, none, none, some (.int x17), none, none, some (.int (x20 + (1 : Int32))), some (.int x21), none, none, none, none, none, some (.int x27), some (.int x28), some (.int ((x17 * (4 : Int32)) + x28)), some (.int v141)]) (st' := [.long (XT.ushrL x10 (((x17 * (4 : Int32)) + x28) * (8 : Int32)))]) rfl ?_
          refine wpl_sl (n := 4) (pc' := 1099) (ls' := [some (.ref 0), some (.ref 1), some (.int x2), some (.int x3), some (.int x4), none, some (.int (x6 ||| (x28 <<< ((x20 * (4 : Int32)) &&& 31)))), some (.int (x7 ||| (v141 <<< ((x20 * (4 : Int32)) &&& 31)))), some (.long x8), none, some (.long x10), none, some (.int x12), none, none, none, none, some (.int x17), none, none, some (.int (x20 + (1 : Int32))), some (.int x21), none, none, none, none, none, some (.int x27), some (.int x28), some (.int ((x17 * (4 : Int32)) + x28)), some (.int v141)]) (st' := [.int (XT.cmpL ((XT.ushrL x10 (((x17 * (4 : Int32)) + x28) * (8 : Int32))) &&& (48 : Int64)) (0 : Int64))]) rfl ?_
          refine wpl_if (a := 1116) (b := 1102) rfl (by decide) rfl rfl (wpl_br (p := (XT.cmpL ((XT.ushrL x10 (((x17 * (4 : Int32)) + x28) * (8 : Int32))) &&& (48 : Int64)) (0 : Int64)) = (0 : Int32)) ⟨fun hc153 => ?_, fun hc153 => ?_⟩)
          · first | exact hm149 _ (by simp only [if_pos hc151, if_pos hc152, if_pos hc153]) _ (by simp only [if_pos hc151, if_pos hc152, if_pos hc153]) _ (by simp only [if_pos hc151, if_pos hc152, if_pos hc153]) _ (by simp only [if_pos hc151, if_pos hc152, if_pos hc153]) _ (by simp only [if_pos hc151, if_pos hc152, if_pos hc153]) | exact wpl_lle (by repeat (first | exact trivial | refine ⟨rfl, ?_⟩)) (hm149 _ (by simp only [if_pos hc151, if_pos hc152, if_pos hc153]) _ (by simp only [if_pos hc151, if_pos hc152, if_pos hc153]) _ (by simp only [if_pos hc151, if_pos hc152, if_pos hc153]) _ (by simp only [if_pos hc151, if_pos hc152, if_pos hc153]) _ (by simp only [if_pos hc151, if_pos hc152, if_pos hc153]))
          · refine wpl_sl (n := 5) (pc' := 1110) (ls' := [some (.ref 0), some (.ref 1), some (.int x2), some (.int x3), some (.int x4), none, some (.int (x6 ||| (x28 <<< ((x20 * (4 : Int32)) &&& 31)))), some (.int (x7 ||| (v141 <<< ((x20 * (4 : Int32)) &&& 31)))), some (.long x8), none, some (.long x10), none, some (.int x12), none, none, none, none, some (.int x17), none, none, some (.int (x20 + (1 : Int32))), some (.int x21), none, none, none, none, none, some (.int x27), some (.int x28), some (.int ((x17 * (4 : Int32)) + x28)), some (.int v141)]) (st' := [.int (((x17 * (4 : Int32)) + x28) * (4 : Int32)), .int (15 : Int32), .int x4]) rfl ?_
            refine wpl_sl (n := 5) (pc' := 1116) (ls' := [some (.ref 0), some (.ref 1), some (.int x2), some (.int x3), some (.int (x4 &&& (((15 : Int32) <<< ((((x17 * (4 : Int32)) + x28) * (4 : Int32)) &&& 31)) ^^^ (-1 : Int32)))), none, some (.int (x6 ||| (x28 <<< ((x20 * (4 : Int32)) &&& 31)))), some (.int (x7 ||| (v141 <<< ((x20 * (4 : Int32)) &&& 31)))), some (.long x8), none, some (.long x10), none, some (.int x12), none, none, none, none, some (.int x17), none, none, some (.int (x20 + (1 : Int32))), some (.int x21), none, none, none, none, none, some (.int x27), some (.int x28), some (.int ((x17 * (4 : Int32)) + x28)), some (.int v141)]) (st' := []) rfl ?_
            first | exact hm149 _ (by simp only [if_pos hc151, if_pos hc152, if_neg hc153]) _ (by simp only [if_pos hc151, if_pos hc152, if_neg hc153]) _ (by simp only [if_pos hc151, if_pos hc152, if_neg hc153]) _ (by simp only [if_pos hc151, if_pos hc152, if_neg hc153]) _ (by simp only [if_pos hc151, if_pos hc152, if_neg hc153]) | exact wpl_lle (by repeat (first | exact trivial | refine ⟨rfl, ?_⟩)) (hm149 _ (by simp only [if_pos hc151, if_pos hc152, if_neg hc153]) _ (by simp only [if_pos hc151, if_pos hc152, if_neg hc153]) _ (by simp only [if_pos hc151, if_pos hc152, if_neg hc153]) _ (by simp only [if_pos hc151, if_pos hc152, if_neg hc153]) _ (by simp only [if_pos hc151, if_pos hc152, if_neg hc153]))
        · refine wpl_sl (n := 5) (pc' := 1081) (ls' := [some (.ref 0), some (.ref 1), some (.int x2), some (.int x3), some (.int x4), none, some (.int (x6 ||| (x28 <<< ((x20 * (4 : Int32)) &&& 31)))), some (.int (x7 ||| (v141 <<< ((x20 * (4 : Int32)) &&& 31)))), some (.long x8), none, some (.long x10), none, some (.int x12), none, none, none, none, some (.int x17), none, none, some (.int (x20 + (1 : Int32))), some (.int x21), none, none, none, none, none, some (.int x27), some (.int x28), some (.int ((x17 * (4 : Int32)) + x28)), some (.int v141)]) (st' := [.int (((x17 * (4 : Int32)) + x28) * (8 : Int32)), .long (64 : Int64), .long x10]) rfl ?_
          refine wpl_sl (n := 5) (pc' := 1089) (ls' := [some (.ref 0), some (.ref 1), some (.int x2), some (.int x3), some (.int x4), none, some (.int (x6 ||| (x28 <<< ((x20 * (4 : Int32)) &&& 31)))), some (.int (x7 ||| (v141 <<< ((x20 * (4 : Int32)) &&& 31)))), some (.long x8), none, some (.long (x10 ||| ((64 : Int64) <<< (((((x17 * (4 : Int32)) + x28) * (8 : Int32))).toInt64 &&& 63)))), none, some (.int x12), none, none, none, none, some (.int x17), none, none, some (.int (x20 + (1 : Int32))), some (.int x21), none, none, none, none, none, some (.int x27), some (.int x28), some (.int ((x17 * (4 : Int32)) + x28)), some (.int v141)]) (st' := [.int ((x17 * (4 : Int32)) + x28), .long (x10 ||| ((64 : Int64) <<< (((((x17 * (4 : Int32)) + x28) * (8 : Int32))).toInt64 &&& 63)))]) rfl ?_
          refine wpl_sl (n := 5) (pc' := 1097) (ls' := [some (.ref 0), some (.ref 1), some (.int x2), some (.int x3), some (.int x4), none, some (.int (x6 ||| (x28 <<< ((x20 * (4 : Int32)) &&& 31)))), some (.int (x7 ||| (v141 <<< ((x20 * (4 : Int32)) &&& 31)))), some (.long x8), none, some (.long (x10 ||| ((64 : Int64) <<< (((((x17 * (4 : Int32)) + x28) * (8 : Int32))).toInt64 &&& 63)))), none, some (.int x12), none, none, none, none, some (.int x17), none, none, some (.int (x20 + (1 : Int32))), some (.int x21), none, none, none, none, none, some (.int x27), some (.int x28), some (.int ((x17 * (4 : Int32)) + x28)), some (.int v141)]) (st' := [.long ((XT.ushrL (x10 ||| ((64 : Int64) <<< (((((x17 * (4 : Int32)) + x28) * (8 : Int32))).toInt64 &&& 63))) (((x17 * (4 : Int32)) + x28) * (8 : Int32))) &&& (48 : Int64))]) rfl ?_
          refine wpl_sl (n := 2) (pc' := 1099) (ls' := [some (.ref 0), some (.ref 1), some (.int x2), some (.int x3), some (.int x4), none, some (.int (x6 ||| (x28 <<< ((x20 * (4 : Int32)) &&& 31)))), some (.int (x7 ||| (v141 <<< ((x20 * (4 : Int32)) &&& 31)))), some (.long x8), none, some (.long (x10 ||| ((64 : Int64) <<< (((((x17 * (4 : Int32)) + x28) * (8 : Int32))).toInt64 &&& 63)))), none, some (.int x12), none, none, none, none, some (.int x17), none, none, some (.int (x20 + (1 : Int32))), some (.int x21), none, none, none, none, none, some (.int x27), some (.int x28), some (.int ((x17 * (4 : Int32)) + x28)), some (.int v141)]) (st' := [.int (XT.cmpL ((XT.ushrL (x10 ||| ((64 : Int64) <<< (((((x17 * (4 : Int32)) + x28) * (8 : Int32))).toInt64 &&& 63))) (((x17 * (4 : Int32)) + x28) * (8 : Int32))) &&& (48 : Int64)) (0 : Int64))]) rfl ?_
          refine wpl_if (a := 1116) (b := 1102) rfl (by decide) rfl rfl (wpl_br (p := (XT.cmpL ((XT.ushrL (x10 ||| ((64 : Int64) <<< (((((x17 * (4 : Int32)) + x28) * (8 : Int32))).toInt64 &&& 63))) (((x17 * (4 : Int32)) + x28) * (8 : Int32))) &&& (48 : Int64)) (0 : Int64)) = (0 : Int32)) ⟨fun hc154 => ?_, fun hc154 => ?_⟩)
          · first | exact hm149 _ (by simp only [if_pos hc151, if_neg hc152, if_pos hc154]) _ (by simp only [if_pos hc151, if_neg hc152, if_pos hc154]) _ (by simp only [if_pos hc151, if_neg hc152, if_pos hc154]) _ (by simp only [if_pos hc151, if_neg hc152, if_pos hc154]) _ (by simp only [if_pos hc151, if_neg hc152, if_pos hc154]) | exact wpl_lle (by repeat (first | exact trivial | refine ⟨rfl, ?_⟩)) (hm149 _ (by simp only [if_pos hc151, if_neg hc152, if_pos hc154]) _ (by simp only [if_pos hc151, if_neg hc152, if_pos hc154]) _ (by simp only [if_pos hc151, if_neg hc152, if_pos hc154]) _ (by simp only [if_pos hc151, if_neg hc152, if_pos hc154]) _ (by simp only [if_pos hc151, if_neg hc152, if_pos hc154]))
          · refine wpl_sl (n := 5) (pc' := 1110) (ls' := [some (.ref 0), some (.ref 1), some (.int x2), some (.int x3), some (.int x4), none, some (.int (x6 ||| (x28 <<< ((x20 * (4 : Int32)) &&& 31)))), some (.int (x7 ||| (v141 <<< ((x20 * (4 : Int32)) &&& 31)))), some (.long x8), none, some (.long (x10 ||| ((64 : Int64) <<< (((((x17 * (4 : Int32)) + x28) * (8 : Int32))).toInt64 &&& 63)))), none, some (.int x12), none, none, none, none, some (.int x17), none, none, some (.int (x20 + (1 : Int32))), some (.int x21), none, none, none, none, none, some (.int x27), some (.int x28), some (.int ((x17 * (4 : Int32)) + x28)), some (.int v141)]) (st' := [.int (((x17 * (4 : Int32)) + x28) * (4 : Int32)), .int (15 : Int32), .int x4]) rfl ?_
            refine wpl_sl (n := 5) (pc' := 1116) (ls' := [some (.ref 0), some (.ref 1), some (.int x2), some (.int x3), some (.int (x4 &&& (((15 : Int32) <<< ((((x17 * (4 : Int32)) + x28) * (4 : Int32)) &&& 31)) ^^^ (-1 : Int32)))), none, some (.int (x6 ||| (x28 <<< ((x20 * (4 : Int32)) &&& 31)))), some (.int (x7 ||| (v141 <<< ((x20 * (4 : Int32)) &&& 31)))), some (.long x8), none, some (.long (x10 ||| ((64 : Int64) <<< (((((x17 * (4 : Int32)) + x28) * (8 : Int32))).toInt64 &&& 63)))), none, some (.int x12), none, none, none, none, some (.int x17), none, none, some (.int (x20 + (1 : Int32))), some (.int x21), none, none, none, none, none, some (.int x27), some (.int x28), some (.int ((x17 * (4 : Int32)) + x28)), some (.int v141)]) (st' := []) rfl ?_
            first | exact hm149 _ (by simp only [if_pos hc151, if_neg hc152, if_neg hc154]) _ (by simp only [if_pos hc151, if_neg hc152, if_neg hc154]) _ (by simp only [if_pos hc151, if_neg hc152, if_neg hc154]) _ (by simp only [if_pos hc151, if_neg hc152, if_neg hc154]) _ (by simp only [if_pos hc151, if_neg hc152, if_neg hc154]) | exact wpl_lle (by repeat (first | exact trivial | refine ⟨rfl, ?_⟩)) (hm149 _ (by simp only [if_pos hc151, if_neg hc152, if_neg hc154]) _ (by simp only [if_pos hc151, if_neg hc152, if_neg hc154]) _ (by simp only [if_pos hc151, if_neg hc152, if_neg hc154]) _ (by simp only [if_pos hc151, if_neg hc152, if_neg hc154]) _ (by simp only [if_pos hc151, if_neg hc152, if_neg hc154]))
      · first | exact hm149 _ (by simp only [if_neg hc151]) _ (by simp only [if_neg hc151]) _ (by simp only [if_neg hc151]) _ (by simp only [if_neg hc151]) _ (by simp only [if_neg hc151]) | exact wpl_lle (by repeat (first | exact trivial | refine ⟨rfl, ?_⟩)) (hm149 _ (by simp only [if_neg hc151]) _ (by simp only [if_neg hc151]) _ (by simp only [if_neg hc151]) _ (by simp only [if_neg hc151]) _ (by simp only [if_neg hc151]))
    · have h139 := h135.2 hc137
      exact wpl_lle (ls := [some (.ref 0), some (.ref 1), some (.int x2), some (.int x3), some (.int x4), none, some (.int x6), some (.int x7), some (.long x8), none, some (.long x10), none, some (.int x12), none, none, none, none, none, none, none, some (.int x20), some (.int x21), none, none, none, none, none, none, none, none, none]) ⟨rfl, rfl, rfl, rfl, rfl, rfl, rfl, rfl, rfl, rfl, rfl, rfl, trivial⟩ h139
  · have h136 := h.2 hc134
    exact wpl_lle (ls := [some (.ref 0), some (.ref 1), some (.int x2), some (.int x3), some (.int x4), none, some (.int x6), some (.int x7), some (.long x8), none, some (.long x10), none, some (.int x12), none, none, none, none, none, none, none, some (.int x20), some (.int x21), none, none, none, none, none, none, none, none, none]) ⟨rfl, rfl, rfl, rfl, rfl, rfl, rfl, rfl, rfl, rfl, rfl, rfl, trivial⟩ h136
theorem l0_712 (N : Nat) (sg : Nat → Int32) (x2 : Int32) (x3 : Int32) (x4 : Int32) (x5 : Int32) (x6 : Int32) (x7 : Int32) (x8 : Int64) (x10 : Int64) (x12 : Int32) (x13 : Int32) (x17 : Int32) (x18 : Int32) (x20 : Int32) (x22 : Int32) (x23 : Int32) (x27 : Int32) (y0 : Int64)  (Q : Int32 → Wd → Prop) (h : ((x13 = (4 : Int32)) → calI PP 19 11 [.ref 0, .int x17, .int x18, .int x22] s (fun v159 s158 => wplI PP QQ (some (N, sg)) 0 lm0 766 [some (.ref 0), some (.ref 1), some (.int x2), some (.int x3), some (.int x4), some (.int x5), some (.int x6), some (.int x7), some (.long x8), none, some (.long x10), none, some (.int x12), some (.int x13), none, none, none, some (.int x17), some (.int x18), none, some (.int x20), some (.int v159), some (.int x22), some (.int x23), none, none, none, some (.int x27), some (.long y0), none, none] [] (W1 s158) Q)) ∧ (¬ (x13 = (4 : Int32)) → ((x13 = (5 : Int32)) → calI PP 20 11 [.ref 0, .int x17, .int x18, .int x22] s (fun v165 s164 => wplI PP QQ (some (N, sg)) 0 lm0 766 [some (.ref 0), some (.ref 1), some (.int x2), some (.int x3), some (.int x4), some (.int x5), some (.int x6), some (.int x7), some (.long x8), none, some (.long x10), none, some (.int x12), some (.int x13), none, none, none, some (.int x17), some (.int x18), none, some (.int x20), some (.int v165), some (.int x22), some (.int x23), none, none, none, some (.int x27), some (.long y0), none, none] [] (W1 s164) Q)) ∧ (¬ (x13 = (5 : Int32)) → calI PP 21 11 [.ref 0, .int x17, .int x18] s (fun v168 s167 => wplI PP QQ (some (N, sg)) 0 lm0 766 [some (.ref 0), some (.ref 1), some (.int x2), some (.int x3), some (.int x4), some (.int x5), some (.int x6), some (.int x7), some (.long x8), none, some (.long x10), none, some (.int x12), some (.int x13), none, none, none, some (.int x17), some (.int x18), none, some (.int x20), some (.int v168), some (.int x22), some (.int x23), none, none, none, some (.int x27), some (.long y0), none, none] [] (W1 s167) Q)))) : wplI PP QQ (some (N, sg)) 0 lm0 712 [some (.ref 0), some (.ref 1), some (.int x2), some (.int x3), some (.int x4), some (.int x5), some (.int x6), some (.int x7), some (.long x8), none, some (.long x10), none, some (.int x12), some (.int x13), none, none, none, some (.int x17), some (.int x18), none, some (.int x20), none, some (.int x22), some (.int x23), none, none, none, some (.int x27), none, none, none] [.long y0] (W1 s) Q := by
  refine wpl_sl (n := 3) (pc' := 717) (ls' := [some (.ref 0), some (.ref 1), some (.int x2), some (.int x3), some (.int x4), some (.int x5), some (.int x6), some (.int x7), some (.long x8), none, some (.long x10), none, some (.int x12), some (.int x13), none, none, none, some (.int x17), some (.int x18), none, some (.int x20), none, some (.int x22), some (.int x23), none, none, none, some (.int x27), some (.long y0), none, none]) (st' := [.int (4 : Int32), .int x13]) rfl ?_
  refine wpl_icmp (a := 735) (b := 720) rfl (by decide) rfl rfl (wpl_br (p := x13 = (4 : Int32)) ⟨fun hc155 => ?_, fun hc155 => ?_⟩)
  · have h156 := h.1 hc155
    refine wpl_sl (n := 4) (pc' := 727) (ls' := [some (.ref 0), some (.ref 1), some (.int x2), some (.int x3), some (.int x4), some (.int x5), some (.int x6), some (.int x7), some (.long x8), none, some (.long x10), none, some (.int x12), some (.int x13), none, none, none, some (.int x17), some (.int x18), none, some (.int x20), none, some (.int x22), some (.int x23), none, none, none, some (.int x27), some (.long y0), none, none]) (st' := [.int x22, .int x18, .int x17, .ref 1]) rfl ?_
    refine wpl_v1 (m' := 19) (me' := cm19) (as := [.int x17, .int x18, .int x22]) (r := []) rfl rfl rfl rfl rfl ⟨by decide, (by first | decide | exact Nat.le_of_ble_eq_true rfl), (by first | decide | exact Nat.le_of_ble_eq_true rfl), rfl⟩ (cal_I (calI.mono h156 fun v159 s158 h160 => ?_))
    refine wpl_sl (n := 2) (pc' := 766) (ls' := [some (.ref 0), some (.ref 1), some (.int x2), some (.int x3), some (.int x4), some (.int x5), some (.int x6), some (.int x7), some (.long x8), none, some (.long x10), none, some (.int x12), some (.int x13), none, none, none, some (.int x17), some (.int x18), none, some (.int x20), some (.int v159), some (.int x22), some (.int x23), none, none, none, some (.int x27), some (.long y0), none, none]) (st' := []) rfl ?_
    exact h160
  · have h157 := h.2 hc155
    refine wpl_sl (n := 2) (pc' := 738) (ls' := [some (.ref 0), some (.ref 1), some (.int x2), some (.int x3), some (.int x4), some (.int x5), some (.int x6), some (.int x7), some (.long x8), none, some (.long x10), none, some (.int x12), some (.int x13), none, none, none, some (.int x17), some (.int x18), none, some (.int x20), none, some (.int x22), some (.int x23), none, none, none, some (.int x27), some (.long y0), none, none]) (st' := [.int (5 : Int32), .int x13]) rfl ?_
    refine wpl_icmp (a := 756) (b := 741) rfl (by decide) rfl rfl (wpl_br (p := x13 = (5 : Int32)) ⟨fun hc161 => ?_, fun hc161 => ?_⟩)
    · have h162 := h157.1 hc161
      refine wpl_sl (n := 4) (pc' := 748) (ls' := [some (.ref 0), some (.ref 1), some (.int x2), some (.int x3), some (.int x4), some (.int x5), some (.int x6), some (.int x7), some (.long x8), none, some (.long x10), none, some (.int x12), some (.int x13), none, none, none, some (.int x17), some (.int x18), none, some (.int x20), none, some (.int x22), some (.int x23), none, none, none, some (.int x27), some (.long y0), none, none]) (st' := [.int x22, .int x18, .int x17, .ref 1]) rfl ?_
      refine wpl_v1 (m' := 20) (me' := cm20) (as := [.int x17, .int x18, .int x22]) (r := []) rfl rfl rfl rfl rfl ⟨by decide, (by first | decide | exact Nat.le_of_ble_eq_true rfl), (by first | decide | exact Nat.le_of_ble_eq_true rfl), rfl⟩ (cal_I (calI.mono h162 fun v165 s164 h166 => ?_))
      refine wpl_sl (n := 2) (pc' := 766) (ls' := [some (.ref 0), some (.ref 1), some (.int x2), some (.int x3), some (.int x4), some (.int x5), some (.int x6), some (.int x7), some (.long x8), none, some (.long x10), none, some (.int x12), some (.int x13), none, none, none, some (.int x17), some (.int x18), none, some (.int x20), some (.int v165), some (.int x22), some (.int x23), none, none, none, some (.int x27), some (.long y0), none, none]) (st' := []) rfl ?_
      exact h166
    · have h163 := h157.2 hc161
      refine wpl_sl (n := 3) (pc' := 761) (ls' := [some (.ref 0), some (.ref 1), some (.int x2), some (.int x3), some (.int x4), some (.int x5), some (.int x6), some (.int x7), some (.long x8), none, some (.long x10), none, some (.int x12), some (.int x13), none, none, none, some (.int x17), some (.int x18), none, some (.int x20), none, some (.int x22), some (.int x23), none, none, none, some (.int x27), some (.long y0), none, none]) (st' := [.int x18, .int x17, .ref 1]) rfl ?_
      refine wpl_v1 (m' := 21) (me' := cm21) (as := [.int x17, .int x18]) (r := []) rfl rfl rfl rfl rfl ⟨by decide, (by first | decide | exact Nat.le_of_ble_eq_true rfl), (by first | decide | exact Nat.le_of_ble_eq_true rfl), rfl⟩ (cal_I (calI.mono h163 fun v168 s167 h169 => ?_))
      refine wpl_sl (n := 1) (pc' := 766) (ls' := [some (.ref 0), some (.ref 1), some (.int x2), some (.int x3), some (.int x4), some (.int x5), some (.int x6), some (.int x7), some (.long x8), none, some (.long x10), none, some (.int x12), some (.int x13), none, none, none, some (.int x17), some (.int x18), none, some (.int x20), some (.int v168), some (.int x22), some (.int x23), none, none, none, some (.int x27), some (.long y0), none, none]) (st' := []) rfl ?_
      exact h169
theorem l0_1122 (N : Nat) (sg : Nat → Int32) (x2 : Int32) (x3 : Int32) (x4 : Int32) (x6 : Int32) (x7 : Int32) (x8 : Int64) (x10 : Int64) (x12 : Int32) (x20 : Int32) (x21 : Int32)  (Q : Int32 → Wd → Prop) (h : wplI PP QQ (some (N, sg)) 0 lm0 1126 [some (.ref 0), some (.ref 1), some (.int x2), some (.int x3), some (.int x4), some (.int x20), some (.int x6), some (.int x7), some (.long x8), none, some (.long x10), none, some (.int x12), none, none, none, none, none, none, none, some (.int x20), some (.int x21), none, none, none, none, none, none, none, none, none] [] (W1 s) Q) : wplI PP QQ (some (N, sg)) 0 lm0 1122 [some (.ref 0), some (.ref 1), some (.int x2), some (.int x3), some (.int x4), none, some (.int x6), some (.int x7), some (.long x8), none, some (.long x10), none, some (.int x12), none, none, none, none, none, none, none, some (.int x20), some (.int x21), none, none, none, none, none, none, none, none, none] [] (W1 s) Q := by
  refine wpl_sl (n := 2) (pc' := 1126) (ls' := [some (.ref 0), some (.ref 1), some (.int x2), some (.int x3), some (.int x4), some (.int x20), some (.int x6), some (.int x7), some (.long x8), none, some (.long x10), none, some (.int x12), none, none, none, none, none, none, none, some (.int x20), some (.int x21), none, none, none, none, none, none, none, none, none]) (st' := []) rfl ?_
  exact h
theorem l0_766 (N : Nat) (sg : Nat → Int32) (x2 : Int32) (x3 : Int32) (x4 : Int32) (x5 : Int32) (x6 : Int32) (x7 : Int32) (x8 : Int64) (x10 : Int64) (x12 : Int32) (x13 : Int32) (x17 : Int32) (x18 : Int32) (x20 : Int32) (x21 : Int32) (x22 : Int32) (x23 : Int32) (x27 : Int32) (x28 : Int64)  (Q : Int32 → Wd → Prop) (h : ((x17 < (2 : Int32)) → ((x13 = (6 : Int32)) → wplI PP QQ (some (N, sg)) 0 lm0 794 [some (.ref 0), some (.ref 1), some (.int x2), some (.int x3), some (.int x4), some (.int x5), some (.int x6), some (.int x7), some (.long x8), none, some (.long x10), none, some (.int x12), some (.int x13), none, none, none, none, some (.int x18), none, some (.int x20), some (.int x21), some (.int x22), some (.int x23), none, none, none, some (.int x27), some (.long x28), none, none] [] (W1 s) Q) ∧ (¬ (x13 = (6 : Int32)) → (((x22 &&& (-52 : Int32)) = (0 : Int32)) → wplI PP QQ (some (N, sg)) 0 lm0 794 [some (.ref 0), some (.ref 1), some (.int x2), some (.int x3), some (.int x4), some (.int x5), some (.int x6), some (.int x7), some (.long x8), none, some (.long x10), none, some (.int x12), some (.int x13), none, none, none, none, some (.int x18), none, some (.int x20), some (.int x21), some (.int x22), some (.int x23), none, none, none, some (.int x27), some (.long x28), none, none] [] (W1 s) Q) ∧ (¬ ((x22 &&& (-52 : Int32)) = (0 : Int32)) → wplI PP QQ (some (N, sg)) 0 lm0 787 [some (.ref 0), some (.ref 1), some (.int x2), some (.int x3), some (.int x4), some (.int x5), some (.int x6), some (.int x7), some (.long x8), none, some (.long x10), none, some (.int x12), none, none, none, none, none, none, none, none, some (.int x21), none, none, none, none, none, none, none, none, none] [] (W1 s) Q))) ∧ (¬ (x17 < (2 : Int32)) → wplI PP QQ (some (N, sg)) 0 lm0 787 [some (.ref 0), some (.ref 1), some (.int x2), some (.int x3), some (.int x4), some (.int x5), some (.int x6), some (.int x7), some (.long x8), none, some (.long x10), none, some (.int x12), none, none, none, none, none, none, none, none, some (.int x21), none, none, none, none, none, none, none, none, none] [] (W1 s) Q)) : wplI PP QQ (some (N, sg)) 0 lm0 766 [some (.ref 0), some (.ref 1), some (.int x2), some (.int x3), some (.int x4), some (.int x5), some (.int x6), some (.int x7), some (.long x8), none, some (.long x10), none, some (.int x12), some (.int x13), none, none, none, some (.int x17), some (.int x18), none, some (.int x20), some (.int x21), some (.int x22), some (.int x23), none, none, none, some (.int x27), some (.long x28), none, none] [] (W1 s) Q := by
  refine wpl_sl (n := 2) (pc' := 769) (ls' := [some (.ref 0), some (.ref 1), some (.int x2), some (.int x3), some (.int x4), some (.int x5), some (.int x6), some (.int x7), some (.long x8), none, some (.long x10), none, some (.int x12), some (.int x13), none, none, none, some (.int x17), some (.int x18), none, some (.int x20), some (.int x21), some (.int x22), some (.int x23), none, none, none, some (.int x27), some (.long x28), none, none]) (st' := [.int (2 : Int32), .int x17]) rfl ?_
  refine wpl_icmp (a := 787) (b := 772) rfl (by decide) rfl rfl (wpl_br (p := x17 < (2 : Int32)) ⟨fun hc170 => ?_, fun hc170 => ?_⟩)
  · have h171 := h.1 hc170
    refine wpl_sl (n := 2) (pc' := 776) (ls' := [some (.ref 0), some (.ref 1), some (.int x2), some (.int x3), some (.int x4), some (.int x5), some (.int x6), some (.int x7), some (.long x8), none, some (.long x10), none, some (.int x12), some (.int x13), none, none, none, some (.int x17), some (.int x18), none, some (.int x20), some (.int x21), some (.int x22), some (.int x23), none, none, none, some (.int x27), some (.long x28), none, none]) (st' := [.int (6 : Int32), .int x13]) rfl ?_
    refine wpl_icmp (a := 794) (b := 779) rfl (by decide) rfl rfl (wpl_br (p := x13 = (6 : Int32)) ⟨fun hc173 => ?_, fun hc173 => ?_⟩)
    · have h174 := h171.1 hc173
      exact wpl_lle (ls := [some (.ref 0), some (.ref 1), some (.int x2), some (.int x3), some (.int x4), some (.int x5), some (.int x6), some (.int x7), some (.long x8), none, some (.long x10), none, some (.int x12), some (.int x13), none, none, none, none, some (.int x18), none, some (.int x20), some (.int x21), some (.int x22), some (.int x23), none, none, none, some (.int x27), some (.long x28), none, none]) ⟨rfl, rfl, rfl, rfl, rfl, rfl, rfl, rfl, rfl, rfl, rfl, rfl, rfl, rfl, rfl, rfl, rfl, rfl, rfl, trivial⟩ h174
    · have h175 := h171.2 hc173
      refine wpl_sl (n := 3) (pc' := 784) (ls' := [some (.ref 0), some (.ref 1), some (.int x2), some (.int x3), some (.int x4), some (.int x5), some (.int x6), some (.int x7), some (.long x8), none, some (.long x10), none, some (.int x12), some (.int x13), none, none, none, some (.int x17), some (.int x18), none, some (.int x20), some (.int x21), some (.int x22), some (.int x23), none, none, none, some (.int x27), some (.long x28), none, none]) (st' := [.int (x22 &&& (-52 : Int32))]) rfl ?_
      refine wpl_if (a := 794) (b := 787) rfl (by decide) rfl rfl (wpl_br (p := (x22 &&& (-52 : Int32)) = (0 : Int32)) ⟨fun hc176 => ?_, fun hc176 => ?_⟩)
      · have h177 := h175.1 hc176
        exact wpl_lle (ls := [some (.ref 0), some (.ref 1), some (.int x2), some (.int x3), some (.int x4), some (.int x5), some (.int x6), some (.int x7), some (.long x8), none, some (.long x10), none, some (.int x12), some (.int x13), none, none, none, none, some (.int x18), none, some (.int x20), some (.int x21), some (.int x22), some (.int x23), none, none, none, some (.int x27), some (.long x28), none, none]) ⟨rfl, rfl, rfl, rfl, rfl, rfl, rfl, rfl, rfl, rfl, rfl, rfl, rfl, rfl, rfl, rfl, rfl, rfl, rfl, trivial⟩ h177
      · have h178 := h175.2 hc176
        exact wpl_lle (ls := [some (.ref 0), some (.ref 1), some (.int x2), some (.int x3), some (.int x4), some (.int x5), some (.int x6), some (.int x7), some (.long x8), none, some (.long x10), none, some (.int x12), none, none, none, none, none, none, none, none, some (.int x21), none, none, none, none, none, none, none, none, none]) ⟨rfl, rfl, rfl, rfl, rfl, rfl, rfl, rfl, rfl, rfl, rfl, rfl, trivial⟩ h178
  · have h172 := h.2 hc170
    exact wpl_lle (ls := [some (.ref 0), some (.ref 1), some (.int x2), some (.int x3), some (.int x4), some (.int x5), some (.int x6), some (.int x7), some (.long x8), none, some (.long x10), none, some (.int x12), none, none, none, none, none, none, none, none, some (.int x21), none, none, none, none, none, none, none, none, none]) ⟨rfl, rfl, rfl, rfl, rfl, rfl, rfl, rfl, rfl, rfl, rfl, rfl, trivial⟩ h172
theorem l0_794 (N : Nat) (sg : Nat → Int32) (x2 : Int32) (x3 : Int32) (x4 : Int32) (x5 : Int32) (x6 : Int32) (x7 : Int32) (x8 : Int64) (x10 : Int64) (x12 : Int32) (x13 : Int32) (x18 : Int32) (x20 : Int32) (x21 : Int32) (x22 : Int32) (x23 : Int32) (x27 : Int32) (x28 : Int64)  (Q : Int32 → Wd → Prop) (h : ((x23 = (0 : Int32)) → wplI PP QQ (some (N, sg)) 0 lm0 939 [some (.ref 0), some (.ref 1), some (.int x2), some (.int x3), some (.int x4), some (.int x5), some (.int x6), some (.int x7), some (.long x8), none, some (.long x10), none, some (.int x12), none, none, none, none, none, none, none, some (.int (-1 : Int32)), some (.int x21), none, none, none, none, none, none, none, none, none] [] (W1 s) Q) ∧ (¬ (x23 = (0 : Int32)) → ((x13 = (4 : Int32)) → (((XT.cmpL x28 (0 : Int64)) = (0 : Int32)) → wplI PP QQ (some (N, sg)) 0 lm0 825 [some (.ref 0), some (.ref 1), some (.int x2), some (.int x3), some (.int x4), some (.int x5), some (.int x6), some (.int x7), some (.long x8), none, some (.long x10), none, some (.int x12), some (.int x13), none, none, none, none, some (.int x18), none, some (.int x20), some (.int x21), some (.int x22), none, none, none, none, some (.int x27), some (.long x28), none, none] [] (W1 s) Q) ∧ (¬ ((XT.cmpL x28 (0 : Int64)) = (0 : Int32)) → wplI PP QQ (some (N, sg)) 0 lm0 939 [some (.ref 0), some (.ref 1), some (.int x2), some (.int x3), some (.int x4), some (.int x5), some (.int x6), some (.int x7), some (.long x8), none, some (.long x10), none, some (.int x12), none, none, none, none, none, none, none, some (.int (-5 : Int32)), some (.int x21), none, none, none, none, none, none, none, none, none] [] (W1 s) Q)) ∧ (¬ (x13 = (4 : Int32)) → wplI PP QQ (some (N, sg)) 0 lm0 825 [some (.ref 0), some (.ref 1), some (.int x2), some (.int x3), some (.int x4), some (.int x5), some (.int x6), some (.int x7), some (.long x8), none, some (.long x10), none, some (.int x12), some (.int x13), none, none, none, none, some (.int x18), none, some (.int x20), some (.int x21), some (.int x22), none, none, none, none, some (.int x27), some (.long x28), none, none] [] (W1 s) Q))) : wplI PP QQ (some (N, sg)) 0 lm0 794 [some (.ref 0), some (.ref 1), some (.int x2), some (.int x3), some (.int x4), some (.int x5), some (.int x6), some (.int x7), some (.long x8), none, some (.long x10), none, some (.int x12), some (.int x13), none, none, none, none, some (.int x18), none, some (.int x20), some (.int x21), some (.int x22), some (.int x23), none, none, none, some (.int x27), some (.long x28), none, none] [] (W1 s) Q := by
  refine wpl_sl (n := 1) (pc' := 796) (ls' := [some (.ref 0), some (.ref 1), some (.int x2), some (.int x3), some (.int x4), some (.int x5), some (.int x6), some (.int x7), some (.long x8), none, some (.long x10), none, some (.int x12), some (.int x13), none, none, none, none, some (.int x18), none, some (.int x20), some (.int x21), some (.int x22), some (.int x23), none, none, none, some (.int x27), some (.long x28), none, none]) (st' := [.int x23]) rfl ?_
  refine wpl_if (a := 805) (b := 799) rfl (by decide) rfl rfl (wpl_br (p := x23 = (0 : Int32)) ⟨fun hc179 => ?_, fun hc179 => ?_⟩)
  · have h180 := h.1 hc179
    refine wpl_sl (n := 3) (pc' := 939) (ls' := [some (.ref 0), some (.ref 1), some (.int x2), some (.int x3), some (.int x4), some (.int x5), some (.int x6), some (.int x7), some (.long x8), none, some (.long x10), none, some (.int x12), some (.int x13), none, none, none, none, some (.int x18), none, some (.int (-1 : Int32)), some (.int x21), some (.int x22), some (.int x23), none, none, none, some (.int x27), some (.long x28), none, none]) (st' := []) rfl ?_
    exact wpl_lle (ls := [some (.ref 0), some (.ref 1), some (.int x2), some (.int x3), some (.int x4), some (.int x5), some (.int x6), some (.int x7), some (.long x8), none, some (.long x10), none, some (.int x12), none, none, none, none, none, none, none, some (.int (-1 : Int32)), some (.int x21), none, none, none, none, none, none, none, none, none]) ⟨rfl, rfl, rfl, rfl, rfl, rfl, rfl, rfl, rfl, rfl, rfl, rfl, rfl, trivial⟩ h180
  · have h181 := h.2 hc179
    refine wpl_sl (n := 2) (pc' := 808) (ls' := [some (.ref 0), some (.ref 1), some (.int x2), some (.int x3), some (.int x4), some (.int x5), some (.int x6), some (.int x7), some (.long x8), none, some (.long x10), none, some (.int x12), some (.int x13), none, none, none, none, some (.int x18), none, some (.int x20), some (.int x21), some (.int x22), some (.int x23), none, none, none, some (.int x27), some (.long x28), none, none]) (st' := [.int (4 : Int32), .int x13]) rfl ?_
    refine wpl_icmp (a := 825) (b := 811) rfl (by decide) rfl rfl (wpl_br (p := x13 = (4 : Int32)) ⟨fun hc182 => ?_, fun hc182 => ?_⟩)
    · have h183 := h181.1 hc182
      refine wpl_sl (n := 3) (pc' := 815) (ls' := [some (.ref 0), some (.ref 1), some (.int x2), some (.int x3), some (.int x4), some (.int x5), some (.int x6), some (.int x7), some (.long x8), none, some (.long x10), none, some (.int x12), some (.int x13), none, none, none, none, some (.int x18), none, some (.int x20), some (.int x21), some (.int x22), some (.int x23), none, none, none, some (.int x27), some (.long x28), none, none]) (st' := [.int (XT.cmpL x28 (0 : Int64))]) rfl ?_
      refine wpl_if (a := 825) (b := 818) rfl (by decide) rfl rfl (wpl_br (p := (XT.cmpL x28 (0 : Int64)) = (0 : Int32)) ⟨fun hc185 => ?_, fun hc185 => ?_⟩)
      · have h186 := h183.1 hc185
        exact wpl_lle (ls := [some (.ref 0), some (.ref 1), some (.int x2), some (.int x3), some (.int x4), some (.int x5), some (.int x6), some (.int x7), some (.long x8), none, some (.long x10), none, some (.int x12), some (.int x13), none, none, none, none, some (.int x18), none, some (.int x20), some (.int x21), some (.int x22), none, none, none, none, some (.int x27), some (.long x28), none, none]) ⟨rfl, rfl, rfl, rfl, rfl, rfl, rfl, rfl, rfl, rfl, rfl, rfl, rfl, rfl, rfl, rfl, rfl, rfl, trivial⟩ h186
      · have h187 := h183.2 hc185
        refine wpl_sl (n := 3) (pc' := 939) (ls' := [some (.ref 0), some (.ref 1), some (.int x2), some (.int x3), some (.int x4), some (.int x5), some (.int x6), some (.int x7), some (.long x8), none, some (.long x10), none, some (.int x12), some (.int x13), none, none, none, none, some (.int x18), none, some (.int (-5 : Int32)), some (.int x21), some (.int x22), some (.int x23), none, none, none, some (.int x27), some (.long x28), none, none]) (st' := []) rfl ?_
        exact wpl_lle (ls := [some (.ref 0), some (.ref 1), some (.int x2), some (.int x3), some (.int x4), some (.int x5), some (.int x6), some (.int x7), some (.long x8), none, some (.long x10), none, some (.int x12), none, none, none, none, none, none, none, some (.int (-5 : Int32)), some (.int x21), none, none, none, none, none, none, none, none, none]) ⟨rfl, rfl, rfl, rfl, rfl, rfl, rfl, rfl, rfl, rfl, rfl, rfl, rfl, trivial⟩ h187
    · have h184 := h181.2 hc182
      exact wpl_lle (ls := [some (.ref 0), some (.ref 1), some (.int x2), some (.int x3), some (.int x4), some (.int x5), some (.int x6), some (.int x7), some (.long x8), none, some (.long x10), none, some (.int x12), some (.int x13), none, none, none, none, some (.int x18), none, some (.int x20), some (.int x21), some (.int x22), none, none, none, none, some (.int x27), some (.long x28), none, none]) ⟨rfl, rfl, rfl, rfl, rfl, rfl, rfl, rfl, rfl, rfl, rfl, rfl, rfl, rfl, rfl, rfl, rfl, rfl, trivial⟩ h184
theorem l0_787 (N : Nat) (sg : Nat → Int32) (x2 : Int32) (x3 : Int32) (x4 : Int32) (x5 : Int32) (x6 : Int32) (x7 : Int32) (x8 : Int64) (x10 : Int64) (x12 : Int32) (x21 : Int32)  (Q : Int32 → Wd → Prop) (h : wplI PP QQ (some (N, sg)) 0 lm0 939 [some (.ref 0), some (.ref 1), some (.int x2), some (.int x3), some (.int x4), some (.int x5), some (.int x6), some (.int x7), some (.long x8), none, some (.long x10), none, some (.int x12), none, none, none, none, none, none, none, some (.int (-6 : Int32)), some (.int x21), none, none, none, none, none, none, none, none, none] [] (W1 s) Q) : wplI PP QQ (some (N, sg)) 0 lm0 787 [some (.ref 0), some (.ref 1), some (.int x2), some (.int x3), some (.int x4), some (.int x5), some (.int x6), some (.int x7), some (.long x8), none, some (.long x10), none, some (.int x12), none, none, none, none, none, none, none, none, some (.int x21), none, none, none, none, none, none, none, none, none] [] (W1 s) Q := by
  refine wpl_sl (n := 3) (pc' := 939) (ls' := [some (.ref 0), some (.ref 1), some (.int x2), some (.int x3), some (.int x4), some (.int x5), some (.int x6), some (.int x7), some (.long x8), none, some (.long x10), none, some (.int x12), none, none, none, none, none, none, none, some (.int (-6 : Int32)), some (.int x21), none, none, none, none, none, none, none, none, none]) (st' := []) rfl ?_
  exact h
theorem l0_939 (N : Nat) (sg : Nat → Int32) (x2 : Int32) (x3 : Int32) (x4 : Int32) (x5 : Int32) (x6 : Int32) (x7 : Int32) (x8 : Int64) (x10 : Int64) (x12 : Int32) (x20 : Int32) (x21 : Int32)  (Q : Int32 → Wd → Prop) (h : wplI PP QQ (some (N, sg)) 0 lm0 1126 [some (.ref 0), some (.ref 1), some (.int x2), some (.int x3), some (.int x4), some (.int x5), some (.int x6), some (.int x7), some (.long x8), none, some (.long x10), none, some (.int x12), none, none, none, none, none, none, none, some (.int x20), some (.int x21), none, none, none, none, none, none, none, none, none] [] (W1 s) Q) : wplI PP QQ (some (N, sg)) 0 lm0 939 [some (.ref 0), some (.ref 1), some (.int x2), some (.int x3), some (.int x4), some (.int x5), some (.int x6), some (.int x7), some (.long x8), none, some (.long x10), none, some (.int x12), none, none, none, none, none, none, none, some (.int x20), some (.int x21), none, none, none, none, none, none, none, none, none] [] (W1 s) Q := by
  refine wpl_sl (n := 1) (pc' := 1126) (ls' := [some (.ref 0), some (.ref 1), some (.int x2), some (.int x3), some (.int x4), some (.int x5), some (.int x6), some (.int x7), some (.long x8), none, some (.long x10), none, some (.int x12), none, none, none, none, none, none, none, some (.int x20), some (.int x21), none, none, none, none, none, none, none, none, none]) (st' := []) rfl ?_
  exact h
theorem l0_825 (N : Nat) (sg : Nat → Int32) (x2 : Int32) (x3 : Int32) (x4 : Int32) (x5 : Int32) (x6 : Int32) (x7 : Int32) (x8 : Int64) (x10 : Int64) (x12 : Int32) (x13 : Int32) (x18 : Int32) (x20 : Int32) (x21 : Int32) (x22 : Int32) (x27 : Int32) (x28 : Int64)  (Q : Int32 → Wd → Prop) (h : ((x13 = (4 : Int32)) → wplI PP QQ (some (N, sg)) 0 lm0 845 [some (.ref 0), some (.ref 1), some (.int x2), some (.int x3), some (.int x4), some (.int x5), some (.int x6), some (.int x7), some (.long x8), none, some (.long x10), none, some (.int x12), some (.int x13), none, none, none, none, some (.int x18), none, some (.int x20), some (.int x21), some (.int x22), none, none, none, none, some (.int x27), none, none, none] [] (W1 s) Q) ∧ (¬ (x13 = (4 : Int32)) → (((XT.cmpL x28 (0 : Int64)) = (0 : Int32)) → wplI PP QQ (some (N, sg)) 0 lm0 939 [some (.ref 0), some (.ref 1), some (.int x2), some (.int x3), some (.int x4), some (.int x5), some (.int x6), some (.int x7), some (.long x8), none, some (.long x10), none, some (.int x12), none, none, none, none, none, none, none, some (.int (-7 : Int32)), some (.int x21), none, none, none, none, none, none, none, none, none] [] (W1 s) Q) ∧ (¬ ((XT.cmpL x28 (0 : Int64)) = (0 : Int32)) → wplI PP QQ (some (N, sg)) 0 lm0 845 [some (.ref 0), some (.ref 1), some (.int x2), some (.int x3), some (.int x4), some (.int x5), some (.int x6), some (.int x7), some (.long x8), none, some (.long x10), none, some (.int x12), some (.int x13), none, none, none, none, some (.int x18), none, some (.int x20), some (.int x21), some (.int x22), none, none, none, none, some (.int x27), none, none, none] [] (W1 s) Q))) : wplI PP QQ (some (N, sg)) 0 lm0 825 [some (.ref 0), some (.ref 1), some (.int x2), some (.int x3), some (.int x4), some (.int x5), some (.int x6), some (.int x7), some (.long x8), none, some (.long x10), none, some (.int x12), some (.int x13), none, none, none, none, some (.int x18), none, some (.int x20), some (.int x21), some (.int x22), none, none, none, none, some (.int x27), some (.long x28), none, none] [] (W1 s) Q := by
  refine wpl_sl (n := 2) (pc' := 828) (ls' := [some (.ref 0), some (.ref 1), some (.int x2), some (.int x3), some (.int x4), some (.int x5), some (.int x6), some (.int x7), some (.long x8), none, some (.long x10), none, some (.int x12), some (.int x13), none, none, none, none, some (.int x18), none, some (.int x20), some (.int x21), some (.int x22), none, none, none, none, some (.int x27), some (.long x28), none, none]) (st' := [.int (4 : Int32), .int x13]) rfl ?_
  refine wpl_icmp (a := 845) (b := 831) rfl (by decide) rfl rfl (wpl_br (p := x13 = (4 : Int32)) ⟨fun hc188 => ?_, fun hc188 => ?_⟩)
  · have h189 := h.1 hc188
    exact wpl_lle (ls := [some (.ref 0), some (.ref 1), some (.int x2), some (.int x3), some (.int x4), some (.int x5), some (.int x6), some (.int x7), some (.long x8), none, some (.long x10), none, some (.int x12), some (.int x13), none, none, none, none, some (.int x18), none, some (.int x20), some (.int x21), some (.int x22), none, none, none, none, some (.int x27), none, none, none]) ⟨rfl, rfl, rfl, rfl, rfl, rfl, rfl, rfl, rfl, rfl, rfl, rfl, rfl, rfl, rfl, rfl, rfl, trivial⟩ h189
  · have h190 := h.2 hc188
    refine wpl_sl (n := 3) (pc' := 835) (ls' := [some (.ref 0), some (.ref 1), some (.int x2), some (.int x3), some (.int x4), some (.int x5), some (.int x6), some (.int x7), some (.long x8), none, some (.long x10), none, some (.int x12), some (.int x13), none, none, none, none, some (.int x18), none, some (.int x20), some (.int x21), some (.int x22), none, none, none, none, some (.int x27), some (.long x28), none, none]) (st' := [.int (XT.cmpL x28 (0 : Int64))]) rfl ?_
    refine wpl_if (a := 845) (b := 838) rfl (by decide) rfl rfl (wpl_br (p := (XT.cmpL x28 (0 : Int64)) = (0 : Int32)) ⟨fun hc191 => ?_, fun hc191 => ?_⟩)
    · have h192 := h190.1 hc191
      refine wpl_sl (n := 3) (pc' := 939) (ls' := [some (.ref 0), some (.ref 1), some (.int x2), some (.int x3), some (.int x4), some (.int x5), some (.int x6), some (.int x7), some (.long x8), none, some (.long x10), none, some (.int x12), some (.int x13), none, none, none, none, some (.int x18), none, some (.int (-7 : Int32)), some (.int x21), some (.int x22), none, none, none, none, some (.int x27), some (.long x28), none, none]) (st' := []) rfl ?_
      exact wpl_lle (ls := [some (.ref 0), some (.ref 1), some (.int x2), some (.int x3), some (.int x4), some (.int x5), some (.int x6), some (.int x7), some (.long x8), none, some (.long x10), none, some (.int x12), none, none, none, none, none, none, none, some (.int (-7 : Int32)), some (.int x21), none, none, none, none, none, none, none, none, none]) ⟨rfl, rfl, rfl, rfl, rfl, rfl, rfl, rfl, rfl, rfl, rfl, rfl, rfl, trivial⟩ h192
    · have h193 := h190.2 hc191
      exact wpl_lle (ls := [some (.ref 0), some (.ref 1), some (.int x2), some (.int x3), some (.int x4), some (.int x5), some (.int x6), some (.int x7), some (.long x8), none, some (.long x10), none, some (.int x12), some (.int x13), none, none, none, none, some (.int x18), none, some (.int x20), some (.int x21), some (.int x22), none, none, none, none, some (.int x27), none, none, none]) ⟨rfl, rfl, rfl, rfl, rfl, rfl, rfl, rfl, rfl, rfl, rfl, rfl, rfl, rfl, rfl, rfl, rfl, trivial⟩ h193
theorem l0_845 (N : Nat) (sg : Nat → Int32) (x2 : Int32) (x3 : Int32) (x4 : Int32) (x5 : Int32) (x6 : Int32) (x7 : Int32) (x8 : Int64) (x10 : Int64) (x12 : Int32) (x13 : Int32) (x18 : Int32) (x20 : Int32) (x21 : Int32) (x22 : Int32) (x27 : Int32)  (Q : Int32 → Wd → Prop) (h : ((x13 = (6 : Int32)) → wplI PP QQ (some (N, sg)) 0 lm0 939 [some (.ref 0), some (.ref 1), some (.int x2), some (.int x3), some (.int (x4 &&& (((15 : Int32) <<< ((x27 * (4 : Int32)) &&& 31)) ^^^ (-1 : Int32)))), some (.int x5), some (.int x6), some (.int x7), some (.long x8), none, some (.long (x10 &&& (((255 : Int64) <<< (((x27 * (8 : Int32))).toInt64 &&& 63)) ^^^ (-1 : Int64)))), none, some (.int x12), none, none, none, none, none, none, none, some (.int x20), some (.int x21), none, none, none, none, none, none, none, none, none] [] (W1 s) Q) ∧ (¬ (x13 = (6 : Int32)) → (((x22 &&& (16 : Int32)) = (0 : Int32)) → wplI PP QQ (some (N, sg)) 0 lm0 931 [some (.ref 0), some (.ref 1), some (.int x2), some (.int x3), none, some (.int x5), some (.int x6), some (.int x7), some (.long x8), none, some (.long ((x10 &&& (((255 : Int64) <<< (((x27 * (8 : Int32))).toInt64 &&& 63)) ^^^ (-1 : Int64))) ||| ((Int32.toInt64 ((128 : Int32) ||| x22)) <<< (((x27 * (8 : Int32))).toInt64 &&& 63)))), none, some (.int x12), none, none, none, none, none, none, none, some (.int x20), some (.int x21), none, none, none, none, none, some (.int x27), none, none, none] [.int (0 : Int32), .int (x4 &&& (((15 : Int32) <<< ((x27 * (4 : Int32)) &&& 31)) ^^^ (-1 : Int32)))] (W1 s) Q) ∧ (¬ ((x22 &&& (16 : Int32)) = (0 : Int32)) → lalI PP QQ (some (N, sg)) 3 [.int x2, .int x3, .int x18] (W1 s) (fun v201 w200 => ∃ s203, w200 = W1 s203 ∧ (wplI PP QQ (some (N, sg)) 0 lm0 931 [some (.ref 0), some (.ref 1), some (.int x2), some (.int x3), none, some (.int x5), some (.int x6), some (.int x7), some (.long x8), none, some (.long ((x10 &&& (((255 : Int64) <<< (((x27 * (8 : Int32))).toInt64 &&& 63)) ^^^ (-1 : Int64))) ||| ((Int32.toInt64 ((128 : Int32) ||| x22)) <<< (((x27 * (8 : Int32))).toInt64 &&& 63)))), none, some (.int x12), none, none, none, none, none, none, none, some (.int x20), some (.int x21), none, none, none, none, none, some (.int x27), none, none, none] [.int (v201 &&& ((x22 &&& (3 : Int32)) ||| (12 : Int32))), .int (x4 &&& (((15 : Int32) <<< ((x27 * (4 : Int32)) &&& 31)) ^^^ (-1 : Int32)))] (W1 s203) Q))))) : wplI PP QQ (some (N, sg)) 0 lm0 845 [some (.ref 0), some (.ref 1), some (.int x2), some (.int x3), some (.int x4), some (.int x5), some (.int x6), some (.int x7), some (.long x8), none, some (.long x10), none, some (.int x12), some (.int x13), none, none, none, none, some (.int x18), none, some (.int x20), some (.int x21), some (.int x22), none, none, none, none, some (.int x27), none, none, none] [] (W1 s) Q := by
  refine wpl_sl (n := 5) (pc' := 855) (ls' := [some (.ref 0), some (.ref 1), some (.int x2), some (.int x3), some (.int x4), some (.int x5), some (.int x6), some (.int x7), some (.long x8), none, some (.long x10), none, some (.int x12), some (.int x13), none, none, none, none, some (.int x18), none, some (.int x20), some (.int x21), some (.int x22), none, none, none, none, some (.int x27), none, none, none]) (st' := [.int (x27 * (8 : Int32)), .long (255 : Int64), .long x10]) rfl ?_
  refine wpl_sl (n := 5) (pc' := 863) (ls' := [some (.ref 0), some (.ref 1), some (.int x2), some (.int x3), some (.int x4), some (.int x5), some (.int x6), some (.int x7), some (.long x8), none, some (.long (x10 &&& (((255 : Int64) <<< (((x27 * (8 : Int32))).toInt64 &&& 63)) ^^^ (-1 : Int64)))), none, some (.int x12), some (.int x13), none, none, none, none, some (.int x18), none, some (.int x20), some (.int x21), some (.int x22), none, none, none, none, some (.int x27), none, none, none]) (st' := []) rfl ?_
  refine wpl_sl (n := 5) (pc' := 871) (ls' := [some (.ref 0), some (.ref 1), some (.int x2), some (.int x3), some (.int x4), some (.int x5), some (.int x6), some (.int x7), some (.long x8), none, some (.long (x10 &&& (((255 : Int64) <<< (((x27 * (8 : Int32))).toInt64 &&& 63)) ^^^ (-1 : Int64)))), none, some (.int x12), some (.int x13), none, none, none, none, some (.int x18), none, some (.int x20), some (.int x21), some (.int x22), none, none, none, none, some (.int x27), none, none, none]) (st' := [.int (x27 * (4 : Int32)), .int (15 : Int32), .int x4]) rfl ?_
  refine wpl_sl (n := 5) (pc' := 877) (ls' := [some (.ref 0), some (.ref 1), some (.int x2), some (.int x3), some (.int (x4 &&& (((15 : Int32) <<< ((x27 * (4 : Int32)) &&& 31)) ^^^ (-1 : Int32)))), some (.int x5), some (.int x6), some (.int x7), some (.long x8), none, some (.long (x10 &&& (((255 : Int64) <<< (((x27 * (8 : Int32))).toInt64 &&& 63)) ^^^ (-1 : Int64)))), none, some (.int x12), some (.int x13), none, none, none, none, some (.int x18), none, some (.int x20), some (.int x21), some (.int x22), none, none, none, none, some (.int x27), none, none, none]) (st' := []) rfl ?_
  refine wpl_sl (n := 2) (pc' := 881) (ls' := [some (.ref 0), some (.ref 1), some (.int x2), some (.int x3), some (.int (x4 &&& (((15 : Int32) <<< ((x27 * (4 : Int32)) &&& 31)) ^^^ (-1 : Int32)))), some (.int x5), some (.int x6), some (.int x7), some (.long x8), none, some (.long (x10 &&& (((255 : Int64) <<< (((x27 * (8 : Int32))).toInt64 &&& 63)) ^^^ (-1 : Int64)))), none, some (.int x12), some (.int x13), none, none, none, none, some (.int x18), none, some (.int x20), some (.int x21), some (.int x22), none, none, none, none, some (.int x27), none, none, none]) (st' := [.int (6 : Int32), .int x13]) rfl ?_
  refine wpl_icmp (a := 939) (b := 884) rfl (by decide) rfl rfl (wpl_br (p := x13 = (6 : Int32)) ⟨fun hc194 => ?_, fun hc194 => ?_⟩)
  · have h195 := h.1 hc194
    exact wpl_lle (ls := [some (.ref 0), some (.ref 1), some (.int x2), some (.int x3), some (.int (x4 &&& (((15 : Int32) <<< ((x27 * (4 : Int32)) &&& 31)) ^^^ (-1 : Int32)))), some (.int x5), some (.int x6), some (.int x7), some (.long x8), none, some (.long (x10 &&& (((255 : Int64) <<< (((x27 * (8 : Int32))).toInt64 &&& 63)) ^^^ (-1 : Int64)))), none, some (.int x12), none, none, none, none, none, none, none, some (.int x20), some (.int x21), none, none, none, none, none, none, none, none, none]) ⟨rfl, rfl, rfl, rfl, rfl, rfl, rfl, rfl, rfl, rfl, rfl, rfl, rfl, trivial⟩ h195
  · have h196 := h.2 hc194
    refine wpl_sl (n := 5) (pc' := 893) (ls' := [some (.ref 0), some (.ref 1), some (.int x2), some (.int x3), some (.int (x4 &&& (((15 : Int32) <<< ((x27 * (4 : Int32)) &&& 31)) ^^^ (-1 : Int32)))), some (.int x5), some (.int x6), some (.int x7), some (.long x8), none, some (.long (x10 &&& (((255 : Int64) <<< (((x27 * (8 : Int32))).toInt64 &&& 63)) ^^^ (-1 : Int64)))), none, some (.int x12), some (.int x13), none, none, none, none, some (.int x18), none, some (.int x20), some (.int x21), some (.int x22), none, none, none, none, some (.int x27), none, none, none]) (st' := [.long (Int32.toInt64 ((128 : Int32) ||| x22)), .long (x10 &&& (((255 : Int64) <<< (((x27 * (8 : Int32))).toInt64 &&& 63)) ^^^ (-1 : Int64)))]) rfl ?_
    refine wpl_sl (n := 5) (pc' := 900) (ls' := [some (.ref 0), some (.ref 1), some (.int x2), some (.int x3), some (.int (x4 &&& (((15 : Int32) <<< ((x27 * (4 : Int32)) &&& 31)) ^^^ (-1 : Int32)))), some (.int x5), some (.int x6), some (.int x7), some (.long x8), none, some (.long (x10 &&& (((255 : Int64) <<< (((x27 * (8 : Int32))).toInt64 &&& 63)) ^^^ (-1 : Int64)))), none, some (.int x12), some (.int x13), none, none, none, none, some (.int x18), none, some (.int x20), some (.int x21), some (.int x22), none, none, none, none, some (.int x27), none, none, none]) (st' := [.long ((x10 &&& (((255 : Int64) <<< (((x27 * (8 : Int32))).toInt64 &&& 63)) ^^^ (-1 : Int64))) ||| ((Int32.toInt64 ((128 : Int32) ||| x22)) <<< (((x27 * (8 : Int32))).toInt64 &&& 63)))]) rfl ?_
    refine wpl_sl (n := 5) (pc' := 909) (ls' := [some (.ref 0), some (.ref 1), some (.int x2), some (.int x3), some (.int (x4 &&& (((15 : Int32) <<< ((x27 * (4 : Int32)) &&& 31)) ^^^ (-1 : Int32)))), some (.int x5), some (.int x6), some (.int x7), some (.long x8), none, some (.long ((x10 &&& (((255 : Int64) <<< (((x27 * (8 : Int32))).toInt64 &&& 63)) ^^^ (-1 : Int64))) ||| ((Int32.toInt64 ((128 : Int32) ||| x22)) <<< (((x27 * (8 : Int32))).toInt64 &&& 63)))), none, some (.int x12), some (.int x13), none, none, none, none, some (.int x18), none, some (.int x20), some (.int x21), some (.int x22), none, none, none, none, some (.int x27), none, none, none]) (st' := [.int (x22 &&& (16 : Int32)), .int (x4 &&& (((15 : Int32) <<< ((x27 * (4 : Int32)) &&& 31)) ^^^ (-1 : Int32)))]) rfl ?_
    refine wpl_if (a := 930) (b := 912) rfl (by decide) rfl rfl (wpl_br (p := (x22 &&& (16 : Int32)) = (0 : Int32)) ⟨fun hc197 => ?_, fun hc197 => ?_⟩)
    · have h198 := h196.1 hc197
      refine wpl_sl (n := 1) (pc' := 931) (ls' := [some (.ref 0), some (.ref 1), some (.int x2), some (.int x3), some (.int (x4 &&& (((15 : Int32) <<< ((x27 * (4 : Int32)) &&& 31)) ^^^ (-1 : Int32)))), some (.int x5), some (.int x6), some (.int x7), some (.long x8), none, some (.long ((x10 &&& (((255 : Int64) <<< (((x27 * (8 : Int32))).toInt64 &&& 63)) ^^^ (-1 : Int64))) ||| ((Int32.toInt64 ((128 : Int32) ||| x22)) <<< (((x27 * (8 : Int32))).toInt64 &&& 63)))), none, some (.int x12), some (.int x13), none, none, none, none, some (.int x18), none, some (.int x20), some (.int x21), some (.int x22), none, none, none, none, some (.int x27), none, none, none]) (st' := [.int (0 : Int32), .int (x4 &&& (((15 : Int32) <<< ((x27 * (4 : Int32)) &&& 31)) ^^^ (-1 : Int32)))]) rfl ?_
      exact wpl_lle (ls := [some (.ref 0), some (.ref 1), some (.int x2), some (.int x3), none, some (.int x5), some (.int x6), some (.int x7), some (.long x8), none, some (.long ((x10 &&& (((255 : Int64) <<< (((x27 * (8 : Int32))).toInt64 &&& 63)) ^^^ (-1 : Int64))) ||| ((Int32.toInt64 ((128 : Int32) ||| x22)) <<< (((x27 * (8 : Int32))).toInt64 &&& 63)))), none, some (.int x12), none, none, none, none, none, none, none, some (.int x20), some (.int x21), none, none, none, none, none, some (.int x27), none, none, none]) ⟨rfl, rfl, rfl, rfl, rfl, rfl, rfl, rfl, rfl, rfl, rfl, rfl, rfl, trivial⟩ h198
    · have h199 := h196.2 hc197
      refine wpl_sl (n := 3) (pc' := 916) (ls' := [some (.ref 0), some (.ref 1), some (.int x2), some (.int x3), some (.int (x4 &&& (((15 : Int32) <<< ((x27 * (4 : Int32)) &&& 31)) ^^^ (-1 : Int32)))), some (.int x5), some (.int x6), some (.int x7), some (.long x8), none, some (.long ((x10 &&& (((255 : Int64) <<< (((x27 * (8 : Int32))).toInt64 &&& 63)) ^^^ (-1 : Int64))) ||| ((Int32.toInt64 ((128 : Int32) ||| x22)) <<< (((x27 * (8 : Int32))).toInt64 &&& 63)))), none, some (.int x12), some (.int x13), none, none, none, none, some (.int x18), none, some (.int x20), some (.int x21), some (.int x22), none, none, none, none, some (.int x27), none, none, none]) (st' := [.int x18, .int x3, .int x2, .int (x4 &&& (((15 : Int32) <<< ((x27 * (4 : Int32)) &&& 31)) ^^^ (-1 : Int32)))]) rfl ?_
      refine wpl_stat (m' := 3) (me' := lm3) (as := [.int x2, .int x3, .int x18]) (r := [.int (x4 &&& (((15 : Int32) <<< ((x27 * (4 : Int32)) &&& 31)) ^^^ (-1 : Int32)))]) rfl rfl rfl rfl rfl ⟨(by first | decide | exact Nat.le_of_ble_eq_true rfl), (by first | decide | exact Nat.le_of_ble_eq_true rfl), (by first | decide | exact Nat.le_of_ble_eq_true rfl), (by first | decide | exact Nat.le_of_ble_eq_true rfl), rfl⟩ (lal_I (lalI.mono h199 fun v201 w200 hh => ?_))
      obtain ⟨s203, rfl, h202⟩ := hh
      refine wpl_sl (n := 7) (pc' := 931) (ls' := [some (.ref 0), some (.ref 1), some (.int x2), some (.int x3), some (.int (x4 &&& (((15 : Int32) <<< ((x27 * (4 : Int32)) &&& 31)) ^^^ (-1 : Int32)))), some (.int x5), some (.int x6), some (.int x7), some (.long x8), none, some (.long ((x10 &&& (((255 : Int64) <<< (((x27 * (8 : Int32))).toInt64 &&& 63)) ^^^ (-1 : Int64))) ||| ((Int32.toInt64 ((128 : Int32) ||| x22)) <<< (((x27 * (8 : Int32))).toInt64 &&& 63)))), none, some (.int x12), some (.int x13), none, none, none, none, some (.int x18), none, some (.int x20), some (.int x21), some (.int x22), none, none, none, none, some (.int x27), none, none, none]) (st' := [.int (v201 &&& ((x22 &&& (3 : Int32)) ||| (12 : Int32))), .int (x4 &&& (((15 : Int32) <<< ((x27 * (4 : Int32)) &&& 31)) ^^^ (-1 : Int32)))]) rfl ?_
      exact wpl_lle (ls := [some (.ref 0), some (.ref 1), some (.int x2), some (.int x3), none, some (.int x5), some (.int x6), some (.int x7), some (.long x8), none, some (.long ((x10 &&& (((255 : Int64) <<< (((x27 * (8 : Int32))).toInt64 &&& 63)) ^^^ (-1 : Int64))) ||| ((Int32.toInt64 ((128 : Int32) ||| x22)) <<< (((x27 * (8 : Int32))).toInt64 &&& 63)))), none, some (.int x12), none, none, none, none, none, none, none, some (.int x20), some (.int x21), none, none, none, none, none, some (.int x27), none, none, none]) ⟨rfl, rfl, rfl, rfl, rfl, rfl, rfl, rfl, rfl, rfl, rfl, rfl, rfl, trivial⟩ h202
theorem l0_931 (N : Nat) (sg : Nat → Int32) (x2 : Int32) (x3 : Int32) (x5 : Int32) (x6 : Int32) (x7 : Int32) (x8 : Int64) (x10 : Int64) (x12 : Int32) (x20 : Int32) (x21 : Int32) (x27 : Int32) (y0 : Int32) (y1 : Int32)  (Q : Int32 → Wd → Prop) (h : wplI PP QQ (some (N, sg)) 0 lm0 939 [some (.ref 0), some (.ref 1), some (.int x2), some (.int x3), some (.int (y1 ||| (y0 <<< ((x27 * (4 : Int32)) &&& 31)))), some (.int x5), some (.int x6), some (.int x7), some (.long x8), none, some (.long x10), none, some (.int x12), none, none, none, none, none, none, none, some (.int x20), some (.int x21), none, none, none, none, none, none, none, none, none] [] (W1 s) Q) : wplI PP QQ (some (N, sg)) 0 lm0 931 [some (.ref 0), some (.ref 1), some (.int x2), some (.int x3), none, some (.int x5), some (.int x6), some (.int x7), some (.long x8), none, some (.long x10), none, some (.int x12), none, none, none, none, none, none, none, some (.int x20), some (.int x21), none, none, none, none, none, some (.int x27), none, none, none] [.int y0, .int y1] (W1 s) Q := by
  refine wpl_sl (n := 6) (pc' := 939) (ls' := [some (.ref 0), some (.ref 1), some (.int x2), some (.int x3), some (.int (y1 ||| (y0 <<< ((x27 * (4 : Int32)) &&& 31)))), some (.int x5), some (.int x6), some (.int x7), some (.long x8), none, some (.long x10), none, some (.int x12), none, none, none, none, none, none, none, some (.int x20), some (.int x21), none, none, none, none, none, some (.int x27), none, none, none]) (st' := []) rfl ?_
  exact wpl_lle (ls := [some (.ref 0), some (.ref 1), some (.int x2), some (.int x3), some (.int (y1 ||| (y0 <<< ((x27 * (4 : Int32)) &&& 31)))), some (.int x5), some (.int x6), some (.int x7), some (.long x8), none, some (.long x10), none, some (.int x12), none, none, none, none, none, none, none, some (.int x20), some (.int x21), none, none, none, none, none, none, none, none, none]) ⟨rfl, rfl, rfl, rfl, rfl, rfl, rfl, rfl, rfl, rfl, rfl, rfl, rfl, trivial⟩ h
/-! bits of ints and longs -/
def own_bt (x : Int32) (j : Nat) : Bool := x.toBitVec.getLsbD j
def own_bl (x : Int64) (j : Nat) : Bool := x.toBitVec.getLsbD j
theorem own_i32 (i : Int32) (h0 : 0 ≤ i.toInt) : i = Int32.ofNat (ix i) := by
  have k := ix_int h0
  have r := rng32 i
  rw [i32_eq, Int32.toInt_ofNat_of_lt (by omega)]; omega
theorem own_sh31 (i : Int32) (h0 : 0 ≤ i.toInt) (h1 : i.toInt < 32) : (i &&& 31).toBitVec.smod 32 = BitVec.ofNat 32 (ix i) ∧ ix i < 32 := by
  have k := ix_int h0
  have hn : ix i < 32 := by omega
  have key : ∀ n : Fin 32, (Int32.ofNat n.val &&& 31).toBitVec.smod 32 = BitVec.ofNat 32 n.val := by decide
  have := key ⟨ix i, hn⟩
  rw [← own_i32 i h0] at this
  exact ⟨this, hn⟩
theorem own_bt_one (y : Int32) : (y &&& 1 = 0) ↔ own_bt y 0 = false := by
  unfold own_bt
  constructor
  · intro h
    have := congrArg (fun z => z.toBitVec.getLsbD 0) h
    simpa using this
  · intro h
    apply Int32.toBitVec_inj.mp
    apply BitVec.eq_of_getLsbD_eq
    intro j hj
    rw [Int32.toBitVec_and, BitVec.getLsbD_and]
    have e : (1 : Int32).toBitVec = 1#32 := by decide
    have z : (0 : Int32).toBitVec = 0#32 := by decide
    rw [e, z, BitVec.getLsbD_one]
    by_cases q : j = 0
    · subst q; rw [h, Bool.false_and]; simp
    · simp [q]
theorem own_bt_sar (x i : Int32) (h0 : 0 ≤ i.toInt) (h1 : i.toInt < 32) : own_bt (x >>> (i &&& 31)) 0 = own_bt x (ix i) := by
  obtain ⟨e, hn⟩ := own_sh31 i h0 h1
  unfold own_bt
  rw [Int32.toBitVec_shiftRight, e, BitVec.sshiftRight_eq', BitVec.getLsbD_sshiftRight]
  have e2 : (BitVec.ofNat 32 (ix i)).toNat = ix i := by simp; omega
  rw [e2]; simp [hn]
theorem own_bt_shr (x i : Int32) (h0 : 0 ≤ i.toInt) (h1 : i.toInt < 32) : ((x >>> (i &&& 31)) &&& 1 = 0) ↔ own_bt x (ix i) = false := by
  rw [own_bt_one, own_bt_sar x i h0 h1]
theorem own_bt_shl (i : Int32) (h0 : 0 ≤ i.toInt) (h1 : i.toInt < 32) (j : Nat) (hj : j < 32) : own_bt (1 <<< (i &&& 31)) j = decide (j = ix i) := by
  obtain ⟨e, hn⟩ := own_sh31 i h0 h1
  unfold own_bt
  have e2 : (BitVec.ofNat 32 (ix i)).toNat = ix i := by simp; omega
  have e1 : (1 : Int32).toBitVec = 1#32 := by decide
  rw [Int32.toBitVec_shiftLeft, e, BitVec.shiftLeft_eq', e2, BitVec.getLsbD_shiftLeft, e1, BitVec.getLsbD_one]
  by_cases q : j = ix i
  · subst q; simp [hj]
  · by_cases l : j < ix i
    · simp [l, q]
    · have : ¬ (j - ix i = 0) := by omega
      simp [q, this]
theorem own_bt_or (x i : Int32) (h0 : 0 ≤ i.toInt) (h1 : i.toInt < 32) (j : Nat) (hj : j < 32) : own_bt (x ||| (1 <<< (i &&& 31))) j = (own_bt x j || decide (j = ix i)) := by
  rw [← own_bt_shl i h0 h1 j hj]
  simp [own_bt]
theorem own_bt_neg (x : Int32) (j : Nat) (hj : j < 32) : own_bt (x ^^^ (-1)) j = !own_bt x j := by
  have e : (-1 : Int32).toBitVec = BitVec.allOnes 32 := by decide
  simp [own_bt, e, hj]
theorem own_bt_and (x y : Int32) (j : Nat) : own_bt (x &&& y) j = (own_bt x j && own_bt y j) := by simp [own_bt]
theorem own_bt_clr (x i : Int32) (h0 : 0 ≤ i.toInt) (h1 : i.toInt < 32) (j : Nat) (hj : j < 32) : own_bt (x &&& ((1 <<< (i &&& 31)) ^^^ (-1))) j = (own_bt x j && !decide (j = ix i)) := by
  rw [own_bt_and, own_bt_neg _ _ hj, own_bt_shl i h0 h1 j hj]
theorem own_bt_zero (x : Int32) : x = 0 ↔ ∀ j, j < 32 → own_bt x j = false := by
  constructor
  · intro h j _; rw [h]; simp [own_bt]
  · intro h
    apply Int32.toBitVec_inj.mp
    apply BitVec.eq_of_getLsbD_eq
    intro j hj
    have := h j hj
    have z : (0 : Int32).toBitVec = 0#32 := by decide
    rw [z]; simpa [own_bt] using this
theorem own_bt_0 (j : Nat) : own_bt 0 j = false := by simp [own_bt]
theorem own_bt_tst (x i : Int32) (h0 : 0 ≤ i.toInt) (h1 : i.toInt < 32) : (x &&& (1 <<< (i &&& 31)) = 0) ↔ own_bt x (ix i) = false := by
  have k := ix_int h0
  rw [own_bt_zero]
  constructor
  · intro h
    have := h (ix i) (by omega)
    rw [own_bt_and, own_bt_shl i h0 h1 _ (by omega)] at this
    simpa using this
  · intro h j hj
    rw [own_bt_and, own_bt_shl i h0 h1 _ hj]
    by_cases z : j = ix i
    · rw [z, h]; rfl
    · simp [z]
theorem own_bt_ext {x y : Int32} (h : ∀ j, j < 32 → own_bt x j = own_bt y j) : x = y :=
  Int32.toBitVec_inj.mp (BitVec.eq_of_getLsbD_eq h)
theorem own_bt_s16 (y : Int32) (j : Nat) (hj : j < 16) : own_bt (y <<< ((16 : Int32) &&& 31)) j = false := by
  have e : ((16 : Int32) &&& 31).toBitVec.smod 32 = 16#32 := by decide
  have e2 : (16#32).toNat = 16 := by decide
  unfold own_bt
  rw [Int32.toBitVec_shiftLeft, e, BitVec.shiftLeft_eq', e2, BitVec.getLsbD_shiftLeft]
  simp [hj]
theorem own_bt_15 (j : Nat) (hj : j < 32) : own_bt 15 j = decide (j < 4) := by
  have b : ∀ j : Fin 32, own_bt 15 j.val = decide (j.val < 4) := by decide
  exact b ⟨j, hj⟩
theorem own_bt_64k (j : Nat) (hj : j < 32) : own_bt 65535 j = decide (j < 16) := by
  have b : ∀ j : Fin 32, own_bt 65535 j.val = decide (j.val < 16) := by decide
  exact b ⟨j, hj⟩
/-! nibbles of a long -/
theorem own_sh63 (i : Int32) (h0 : 0 ≤ i.toInt) (h1 : i.toInt < 16) : ((4 * i).toInt64 &&& 63).toBitVec.smod 64 = BitVec.ofNat 64 (4 * ix i) ∧ ((4 * i).toInt64.toUInt64 &&& Int64.toUInt64 63).toBitVec % 64 = BitVec.ofNat 64 (4 * ix i) ∧ ix i < 16 := by
  have k := ix_int h0
  have hn : ix i < 16 := by omega
  have key : ∀ n : Fin 16, ((4 * Int32.ofNat n.val).toInt64 &&& 63).toBitVec.smod 64 = BitVec.ofNat 64 (4 * n.val) ∧ ((4 * Int32.ofNat n.val).toInt64.toUInt64 &&& Int64.toUInt64 63).toBitVec % 64 = BitVec.ofNat 64 (4 * n.val) := by decide
  have := key ⟨ix i, hn⟩
  rw [← own_i32 i h0] at this
  exact ⟨this.1, this.2, hn⟩
def own_nb (x : Int64) (i : Int32) : Int64 := Jvm.Free.XT.ushrL x (4 * i) &&& 15
theorem own_nb_bit (x : Int64) (i : Int32) (h0 : 0 ≤ i.toInt) (h1 : i.toInt < 16) (j : Nat) (hj : j < 64) : own_bl (own_nb x i) j = (own_bl x (4 * ix i + j) && decide (j < 4)) := by
  obtain ⟨_, e, hn⟩ := own_sh63 i h0 h1
  have e2 : (BitVec.ofNat 64 (4 * ix i)).toNat = 4 * ix i := by simp; omega
  have f : (15 : Int64).toBitVec = 15#64 := by decide
  have b15 : ∀ j : Fin 64, (15#64).getLsbD j.val = decide (j.val < 4) := by decide
  have c15 := b15 ⟨j, hj⟩
  simp only at c15
  unfold own_bl own_nb Jvm.Free.XT.ushrL
  rw [Int64.toBitVec_and, BitVec.getLsbD_and, f, c15]
  have g : ((x.toUInt64 >>> ((4 * i).toInt64.toUInt64 &&& Int64.toUInt64 63)).toInt64).toBitVec = x.toBitVec >>> (4 * ix i) := by
    show (x.toUInt64 >>> ((4 * i).toInt64.toUInt64 &&& Int64.toUInt64 63)).toBitVec = _
    rw [UInt64.toBitVec_shiftRight, e, BitVec.ushiftRight_eq', e2]
    rfl
  rw [g, BitVec.getLsbD_ushiftRight]
theorem own_bl_ext {x y : Int64} (h : ∀ j, j < 64 → own_bl x j = own_bl y j) : x = y :=
  Int64.toBitVec_inj.mp (BitVec.eq_of_getLsbD_eq h)
theorem own_bl_sml (v : Int32) (h0 : 0 ≤ v.toInt) (h1 : v.toInt < 16) (j : Nat) : 4 ≤ j → own_bl (Int32.toInt64 v) j = false := by
  intro hj
  have k := ix_int h0
  have hn : ix v < 16 := by omega
  have key : ∀ n : Fin 16, (Int32.ofNat n.val).toInt64.toBitVec = BitVec.ofNat 64 n.val := by decide
  have := key ⟨ix v, hn⟩
  rw [← own_i32 v h0] at this
  unfold own_bl
  rw [this]
  simp only [BitVec.getLsbD_ofNat]
  have : (ix v).testBit j = false := Nat.testBit_lt_two_pow (Nat.lt_of_lt_of_le hn (by
    have : 2 ^ 4 ≤ 2 ^ j := Nat.pow_le_pow_right (by decide) hj
    omega))
  simp [this]
/-- nibble i set to v -/
def own_ns4 (x : Int64) (i v : Int32) : Int64 := (x &&& (((15 : Int64) <<< ((4 * i).toInt64 &&& 63)) ^^^ (-1 : Int64))) ||| (Int32.toInt64 v <<< ((4 * i).toInt64 &&& 63))
theorem own_ns4_bit (x : Int64) (i v : Int32) (h0 : 0 ≤ i.toInt) (h1 : i.toInt < 16) (v0 : 0 ≤ v.toInt) (v1 : v.toInt < 16) (j : Nat) (hj : j < 64) : own_bl (own_ns4 x i v) j = if 4 * ix i ≤ j ∧ j < 4 * ix i + 4 then own_bl (Int32.toInt64 v) (j - 4 * ix i) else own_bl x j := by
  obtain ⟨e, _, hn⟩ := own_sh63 i h0 h1
  have e2 : (BitVec.ofNat 64 (4 * ix i)).toNat = 4 * ix i := by simp; omega
  have f : (15 : Int64).toBitVec = 15#64 := by decide
  have m1 : (-1 : Int64).toBitVec = BitVec.allOnes 64 := by decide
  have b15 : ∀ j : Nat, j < 64 → (15#64).getLsbD j = decide (j < 4) := fun j hj => by
    have b : ∀ j : Fin 64, (15#64).getLsbD j.val = decide (j.val < 4) := by decide
    exact b ⟨j, hj⟩
  have sml := own_bl_sml v v0 v1
  unfold own_bl at *
  unfold own_ns4
  rw [Int64.toBitVec_or, Int64.toBitVec_and, Int64.toBitVec_xor, Int64.toBitVec_shiftLeft, Int64.toBitVec_shiftLeft, e, BitVec.shiftLeft_eq', BitVec.shiftLeft_eq', e2, f, m1]
  rw [BitVec.getLsbD_or, BitVec.getLsbD_and, BitVec.getLsbD_xor, BitVec.getLsbD_shiftLeft, BitVec.getLsbD_shiftLeft, BitVec.getLsbD_allOnes, b15 _ (by omega)]
  by_cases l : j < 4 * ix i
  · rw [if_neg (by omega)]; simp [l, hj]
  · by_cases u : j < 4 * ix i + 4
    · rw [if_pos (by omega)]
      have : j - 4 * ix i < 4 := by omega
      simp [l, hj, this]
    · rw [if_neg (by omega), sml _ (by omega)]
      have : ¬ (j - 4 * ix i < 4) := by omega
      simp [hj, this]
theorem own_nb_set (x : Int64) (i v : Int32) (h0 : 0 ≤ i.toInt) (h1 : i.toInt < 16) (v0 : 0 ≤ v.toInt) (v1 : v.toInt < 16) (k : Int32) (k0 : 0 ≤ k.toInt) (k1 : k.toInt < 16) : own_nb (own_ns4 x i v) k = if k = i then Int32.toInt64 v else own_nb x k := by
  have ki := ix_int h0
  have kk := ix_int k0
  apply own_bl_ext
  intro j hj
  rw [own_nb_bit _ _ k0 k1 j hj]
  by_cases q : j < 4
  · rw [own_ns4_bit x i v h0 h1 v0 v1 _ (by omega)]
    by_cases z : k = i
    · rw [if_pos z]; subst z; rw [if_pos (by omega), Nat.add_sub_cancel_left]; simp [q]
    · rw [if_neg z, own_nb_bit _ _ k0 k1 j hj]
      rw [i32_eq] at z
      rw [if_neg (by omega)]
  · have : decide (j < 4) = false := by simp [q]
    rw [this, Bool.and_false]
    by_cases z : k = i
    · rw [if_pos z, own_bl_sml v v0 v1 j (by omega)]
    · rw [if_neg z, own_nb_bit _ _ k0 k1 j hj, this, Bool.and_false]

/-! single bits of a long -/
theorem own_sh64 (i : Int32) (h0 : 0 ≤ i.toInt) (h1 : i.toInt < 64) : (i.toInt64 &&& 63).toBitVec.smod 64 = BitVec.ofNat 64 (ix i) ∧ (i.toInt64.toUInt64 &&& Int64.toUInt64 63).toBitVec % 64 = BitVec.ofNat 64 (ix i) ∧ ix i < 64 := by
  have k := ix_int h0
  have hn : ix i < 64 := by omega
  have key : ∀ n : Fin 64, ((Int32.ofNat n.val).toInt64 &&& 63).toBitVec.smod 64 = BitVec.ofNat 64 n.val ∧ ((Int32.ofNat n.val).toInt64.toUInt64 &&& Int64.toUInt64 63).toBitVec % 64 = BitVec.ofNat 64 n.val := by decide
  have := key ⟨ix i, hn⟩
  rw [← own_i32 i h0] at this
  exact ⟨this.1, this.2, hn⟩
theorem own_bl_ushr (x : Int64) (i : Int32) (h0 : 0 ≤ i.toInt) (h1 : i.toInt < 64) (j : Nat) : own_bl (Jvm.Free.XT.ushrL x i) j = own_bl x (ix i + j) := by
  obtain ⟨_, e, hn⟩ := own_sh64 i h0 h1
  have e2 : (BitVec.ofNat 64 (ix i)).toNat = ix i := by simp; omega
  unfold own_bl Jvm.Free.XT.ushrL
  have g : ((x.toUInt64 >>> (i.toInt64.toUInt64 &&& Int64.toUInt64 63)).toInt64).toBitVec = x.toBitVec >>> (ix i) := by
    show (x.toUInt64 >>> (i.toInt64.toUInt64 &&& Int64.toUInt64 63)).toBitVec = _
    rw [UInt64.toBitVec_shiftRight, e, BitVec.ushiftRight_eq', e2]
    rfl
  rw [g, BitVec.getLsbD_ushiftRight]
theorem own_bl_zero (x : Int64) : x = 0 ↔ ∀ j, j < 64 → own_bl x j = false := by
  constructor
  · intro h j _; rw [h]; simp [own_bl]
  · intro h
    apply own_bl_ext
    intro j hj
    rw [h j hj]; simp [own_bl]
theorem own_bl_hi (x : Int64) (j : Nat) (h : 64 ≤ j) : own_bl x j = false := by
  unfold own_bl; exact BitVec.getLsbD_of_ge _ _ h
theorem own_bl_tst (x : Int64) (i : Int32) (h0 : 0 ≤ i.toInt) (h1 : i.toInt < 64) : (Jvm.Free.XT.ushrL x i &&& 1 = 0) ↔ own_bl x (ix i) = false := by
  have e1 : (1 : Int64).toBitVec = 1#64 := by decide
  rw [own_bl_zero]
  have b : ∀ j, own_bl (Jvm.Free.XT.ushrL x i &&& 1) j = (own_bl x (ix i + j) && decide (j = 0)) := fun j => by
    rw [← own_bl_ushr x i h0 h1 j]
    unfold own_bl
    rw [Int64.toBitVec_and, BitVec.getLsbD_and, e1, BitVec.getLsbD_one]
    simp
  constructor
  · intro h; have := h 0 (by decide); rw [b] at this; simpa using this
  · intro h j hj
    rw [b]
    by_cases w : j = 0
    · rw [w]; simpa using h
    · simp [w]
theorem own_bl_one (i : Int32) (h0 : 0 ≤ i.toInt) (h1 : i.toInt < 64) (j : Nat) (hj : j < 64) : own_bl ((1 : Int64) <<< (i.toInt64 &&& 63)) j = decide (j = ix i) := by
  obtain ⟨e, _, hn⟩ := own_sh64 i h0 h1
  have e2 : (BitVec.ofNat 64 (ix i)).toNat = ix i := by simp; omega
  have e1 : (1 : Int64).toBitVec = 1#64 := by decide
  unfold own_bl
  rw [Int64.toBitVec_shiftLeft, e, BitVec.shiftLeft_eq', e2, BitVec.getLsbD_shiftLeft, e1, BitVec.getLsbD_one]
  by_cases q : j = ix i
  · subst q; simp [hj]
  · by_cases l : j < ix i
    · simp [l, q]
    · have : ¬ (j - ix i = 0) := by omega
      simp [q, this]
theorem own_bl_or (x y : Int64) (j : Nat) : own_bl (x ||| y) j = (own_bl x j || own_bl y j) := by simp [own_bl]
theorem own_bl_and (x y : Int64) (j : Nat) : own_bl (x &&& y) j = (own_bl x j && own_bl y j) := by simp [own_bl]
theorem own_bl_neg (x : Int64) (j : Nat) (hj : j < 64) : own_bl (x ^^^ (-1)) j = !own_bl x j := by
  have e : (-1 : Int64).toBitVec = BitVec.allOnes 64 := by decide
  simp [own_bl, e, hj]
theorem own_bl_0 (j : Nat) : own_bl 0 j = false := by simp [own_bl]

theorem own_bl_shl (x : Int64) (q : Int32) (h0 : 0 ≤ q.toInt) (h1 : q.toInt < 64) (j : Nat) (hj : j < 64) : own_bl (x <<< (q.toInt64 &&& 63)) j = (decide (ix q ≤ j) && own_bl x (j - ix q)) := by
  obtain ⟨e, _, hn⟩ := own_sh64 q h0 h1
  have e2 : (BitVec.ofNat 64 (ix q)).toNat = ix q := by simp; omega
  unfold own_bl
  rw [Int64.toBitVec_shiftLeft, e, BitVec.shiftLeft_eq', e2, BitVec.getLsbD_shiftLeft]
  by_cases l : j < ix q
  · have : ¬ ix q ≤ j := by omega
    simp [l, this]
  · have : ix q ≤ j := by omega
    simp [l, this, hj]
/-- a 3 bit field -/
def own_t (x : Int64) (q : Int32) : Int64 := Jvm.Free.XT.ushrL x q &&& 7
theorem own_t_bit (x : Int64) (q : Int32) (h0 : 0 ≤ q.toInt) (h1 : q.toInt < 64) (j : Nat) (hj : j < 64) : own_bl (own_t x q) j = (own_bl x (ix q + j) && decide (j < 3)) := by
  have f : (7 : Int64).toBitVec = 7#64 := by decide
  have b : ∀ j : Fin 64, (7#64).getLsbD j.val = decide (j.val < 3) := by decide
  have c := b ⟨j, hj⟩
  simp only at c
  unfold own_t
  rw [own_bl_and, own_bl_ushr x q h0 h1]
  unfold own_bl
  rw [f, c]
theorem own_t_set {x d : Int64} {q : Int32} (h0 : 0 ≤ q.toInt) (h1 : q.toInt ≤ 45) (hd : ∀ j, 3 ≤ j → own_bl d j = false) (hz : own_t x q = 0) : own_t (x ||| (d <<< (q.toInt64 &&& 63))) q = d := by
  have xq := ix_int h0
  apply own_bl_ext
  intro j hj
  rw [own_t_bit _ q h0 (by omega) j hj, own_bl_or]
  by_cases l : j < 3
  · rw [own_bl_shl d q h0 (by omega) _ (by omega)]
    have z := congrArg (fun y => own_bl y j) hz
    simp only [own_t_bit x q h0 (show q.toInt < 64 by omega) j hj, own_bl_0] at z
    have z' : own_bl x (ix q + j) = false := by simpa [l] using z
    rw [z']
    have : ix q ≤ ix q + j := by omega
    simp [l, this]
  · rw [hd j (by omega)]; simp [l]
theorem own_t_oth {x d : Int64} {q p : Int32} (h0 : 0 ≤ q.toInt) (h1 : q.toInt ≤ 45) (p0 : 0 ≤ p.toInt) (p1 : p.toInt ≤ 45) (hd : ∀ j, 3 ≤ j → own_bl d j = false) (far : p.toInt + 3 ≤ q.toInt ∨ q.toInt + 3 ≤ p.toInt) : own_t (x ||| (d <<< (q.toInt64 &&& 63))) p = own_t x p := by
  have xq := ix_int h0
  have xp := ix_int p0
  apply own_bl_ext
  intro j hj
  rw [own_t_bit _ p p0 (by omega) j hj, own_t_bit _ p p0 (by omega) j hj, own_bl_or]
  by_cases l : j < 3
  · rw [own_bl_shl d q h0 (by omega) _ (by omega)]
    by_cases w : ix q ≤ ix p + j
    · rw [hd _ (by omega)]; simp
    · simp [w]
  · simp [l]
theorem own_bl_s8 (v : Int32) (h0 : 0 ≤ v.toInt) (h1 : v.toInt < 8) (j : Nat) (hj : 3 ≤ j) : own_bl (Int32.toInt64 v) j = false := by
  have k := ix_int h0
  have hn : ix v < 8 := by omega
  have key : ∀ n : Fin 8, (Int32.ofNat n.val).toInt64.toBitVec = BitVec.ofNat 64 n.val := by decide
  have := key ⟨ix v, hn⟩
  rw [← own_i32 v h0] at this
  unfold own_bl
  rw [this]
  simp only [BitVec.getLsbD_ofNat]
  have : (ix v).testBit j = false := Nat.testBit_lt_two_pow (Nat.lt_of_lt_of_le hn (by
    have : 2 ^ 3 ≤ 2 ^ j := Nat.pow_le_pow_right (by decide) hj
    omega))
  simp [this]

/-! nibbles of an int, bytes of a long -/
theorem own_bt_sarj (x i : Int32) (h0 : 0 ≤ i.toInt) (j : Nat) (h1 : ix i + j < 32) : own_bt (x >>> (i &&& 31)) j = own_bt x (ix i + j) := by
  have xi := ix_int h0
  obtain ⟨e, hn⟩ := own_sh31 i h0 (by omega)
  unfold own_bt
  rw [Int32.toBitVec_shiftRight, e, BitVec.sshiftRight_eq', BitVec.getLsbD_sshiftRight]
  have e2 : (BitVec.ofNat 32 (ix i)).toNat = ix i := by simp; omega
  have j32 : ¬ 32 ≤ j := by omega
  rw [e2]; simp [h1, j32]
theorem own_bt_shlx (x i : Int32) (h0 : 0 ≤ i.toInt) (h1 : i.toInt < 32) (j : Nat) (hj : j < 32) : own_bt (x <<< (i &&& 31)) j = (decide (ix i ≤ j) && own_bt x (j - ix i)) := by
  obtain ⟨e, hn⟩ := own_sh31 i h0 h1
  unfold own_bt
  have e2 : (BitVec.ofNat 32 (ix i)).toNat = ix i := by simp; omega
  rw [Int32.toBitVec_shiftLeft, e, BitVec.shiftLeft_eq', e2, BitVec.getLsbD_shiftLeft]
  by_cases l : j < ix i
  · have : ¬ ix i ≤ j := by omega
    simp [l, this]
  · have : ix i ≤ j := by omega
    simp [l, this, hj]
/-- a 3 bit field -/
theorem own_bt_ushr (x i : Int32) (h0 : 0 ≤ i.toInt) (h1 : i.toInt < 32) (j : Nat) : own_bt (Jvm.Free.XT.ushr x i) j = own_bt x (ix i + j) := by
  have k := ix_int h0
  have key : ∀ n : Fin 32, ((Int32.ofNat n.val &&& 31).toUInt32).toBitVec % 32 = BitVec.ofNat 32 n.val := by decide
  have e := key ⟨ix i, by omega⟩
  rw [← own_i32 i h0] at e
  simp only at e
  have e2 : (BitVec.ofNat 32 (ix i)).toNat = ix i := by simp; omega
  unfold own_bt Jvm.Free.XT.ushr
  have g : ((x.toUInt32 >>> (i &&& 31).toUInt32).toInt32).toBitVec = x.toBitVec >>> (ix i) := by
    show (x.toUInt32 >>> (i &&& 31).toUInt32).toBitVec = _
    rw [UInt32.toBitVec_shiftRight, e, BitVec.ushiftRight_eq', e2]
    rfl
  rw [g, BitVec.getLsbD_ushiftRight]
theorem own_bt_orr (x y : Int32) (j : Nat) : own_bt (x ||| y) j = (own_bt x j || own_bt y j) := by simp [own_bt]
theorem own_bt_t32 (y : Int64) (j : Nat) (hj : j < 32) : own_bt (Int64.toInt32 y) j = own_bl y j := by
  unfold own_bt own_bl
  rw [Int64.toBitVec_toInt32, BitVec.getLsbD_signExtend]
  have : j < 64 := by omega
  simp [hj, this]
theorem own_bt_hi (x : Int32) (j : Nat) (h : 32 ≤ j) : own_bt x j = false := by
  unfold own_bt; exact BitVec.getLsbD_of_ge _ _ h
theorem own_bl_i64 (v : Int32) (h0 : 0 ≤ v.toInt) (j : Nat) : own_bl (Int32.toInt64 v) j = own_bt v j := by
  have m : v.toBitVec.msb = false := by
    have : ¬ v.toBitVec.msb = true := fun q => by
      have := BitVec.toInt_neg_of_msb_true q
      have e : v.toBitVec.toInt = v.toInt := rfl
      omega
    simpa using this
  unfold own_bl own_bt
  rw [Int32.toBitVec_toInt64, BitVec.getLsbD_signExtend, m]
  by_cases l : j < 32
  · have : j < 64 := by omega
    simp [l, this]
  · rw [BitVec.getLsbD_of_ge _ _ (by omega)]
    simp [l]
theorem own_ix4 {n : Nat} (h : n < 8) : 0 ≤ (Int32.ofNat n * 4).toInt ∧ (Int32.ofNat n * 4).toInt < 32 ∧ ix (Int32.ofNat n * 4) = 4 * n := by
  have key : ∀ n : Fin 8, 0 ≤ (Int32.ofNat n.val * 4).toInt ∧ (Int32.ofNat n.val * 4).toInt < 32 ∧ ix (Int32.ofNat n.val * 4) = 4 * n.val := by decide
  exact key ⟨n, h⟩
theorem own_ix8 {n : Nat} (h : n < 8) : 0 ≤ (Int32.ofNat n * 8).toInt ∧ (Int32.ofNat n * 8).toInt < 64 ∧ ix (Int32.ofNat n * 8) = 8 * n := by
  have key : ∀ n : Fin 8, 0 ≤ (Int32.ofNat n.val * 8).toInt ∧ (Int32.ofNat n.val * 8).toInt < 64 ∧ ix (Int32.ofNat n.val * 8) = 8 * n.val := by decide
  exact key ⟨n, h⟩
/-- nibbles -/
def own_ni (x : Int32) (n : Nat) : Int32 := Jvm.Free.XT.ushr x (Int32.ofNat n * 4) &&& 15
theorem own_niI (x k : Int32) (h0 : 0 ≤ k.toInt) : Jvm.Free.XT.ushr x (k * 4) &&& 15 = own_ni x (ix k) := by unfold own_ni; rw [← own_i32 k h0]
theorem own_ni_bit (x : Int32) {n : Nat} (hn : n < 8) (j : Nat) (hj : j < 32) : own_bt (own_ni x n) j = (own_bt x (4 * n + j) && decide (j < 4)) := by
  obtain ⟨a, b, c⟩ := own_ix4 hn
  unfold own_ni
  rw [own_bt_and, own_bt_ushr _ _ a b, c, own_bt_15 j hj]
theorem own_ni_hi (x : Int32) {n : Nat} (hn : n < 8) (j : Nat) (h4 : 4 ≤ j) : own_bt (own_ni x n) j = false := by
  by_cases l : j < 32
  · rw [own_ni_bit x hn j l]
    have : ¬ j < 4 := by omega
    simp [this]
  · exact own_bt_hi _ _ (by omega)
theorem own_15s {k : Nat} (hk : k < 8) (i : Nat) (hi : i < 32) : own_bt ((15 : Int32) <<< ((Int32.ofNat k * 4) &&& 31)) i = decide (4 * k ≤ i ∧ i < 4 * k + 4) := by
  obtain ⟨a, b, c⟩ := own_ix4 hk
  rw [own_bt_shlx _ _ a b i hi, c]
  by_cases l : 4 * k ≤ i
  · rw [own_bt_15 _ (by omega)]
    by_cases l2 : i - 4 * k < 4
    · have : i < 4 * k + 4 := by omega
      simp [l, l2, this]
    · have : ¬ i < 4 * k + 4 := by omega
      simp [l, l2, this]
  · simp [l]
theorem own_ni_clr (x : Int32) {k n : Nat} (hk : k < 8) (hn : n < 8) : own_ni (x &&& (((15 : Int32) <<< ((Int32.ofNat k * 4) &&& 31)) ^^^ (-1))) n = if n = k then 0 else own_ni x n := by
  apply own_bt_ext
  intro j hj
  rw [own_ni_bit _ hn j hj]
  by_cases l : j < 4
  · rw [own_bt_and, own_bt_neg _ _ (by omega), own_15s hk _ (by omega)]
    by_cases e : n = k
    · subst e
      rw [if_pos rfl, own_bt_0]
      simp [l]
    · rw [if_neg e, own_ni_bit _ hn j hj]
      have : ¬ (4 * k ≤ 4 * n + j ∧ 4 * n + j < 4 * k + 4) := by omega
      simp [this]
  · by_cases e : n = k
    · rw [if_pos e, own_bt_0]; simp [l]
    · rw [if_neg e, own_ni_bit _ hn j hj]; simp [l]
theorem own_ni_or (x v : Int32) {k n : Nat} (hk : k < 8) (hn : n < 8) (hv : ∀ j, 4 ≤ j → own_bt v j = false) : own_ni (x ||| (v <<< ((Int32.ofNat k * 4) &&& 31))) n = if n = k then own_ni x n ||| v else own_ni x n := by
  obtain ⟨a, b, c⟩ := own_ix4 hk
  apply own_bt_ext
  intro j hj
  rw [own_ni_bit _ hn j hj]
  by_cases l : j < 4
  · rw [own_bt_orr, own_bt_shlx _ _ a b _ (by omega), c]
    by_cases e : n = k
    · subst e
      rw [if_pos rfl, own_bt_orr, own_ni_bit _ hn j hj]
      simp [l]
    · rw [if_neg e, own_ni_bit _ hn j hj]
      by_cases w : 4 * k ≤ 4 * n + j
      · rw [hv _ (by omega)]; simp [l]
      · simp [w]
  · by_cases e : n = k
    · rw [if_pos e, own_bt_orr (own_ni x n) v, own_ni_bit _ hn j hj, hv j (by omega)]; simp [l]
    · rw [if_neg e, own_ni_bit _ hn j hj]; simp [l]
theorem own_or00 (v : Int32) : (0 : Int32) ||| v = v := by
  apply own_bt_ext
  intro j hj
  rw [own_bt_orr, own_bt_0]; rfl
theorem own_ni_set (x v : Int32) {k n : Nat} (hk : k < 8) (hn : n < 8) (hv : ∀ j, 4 ≤ j → own_bt v j = false) : own_ni ((x &&& (((15 : Int32) <<< ((Int32.ofNat k * 4) &&& 31)) ^^^ (-1))) ||| (v <<< ((Int32.ofNat k * 4) &&& 31))) n = if n = k then v else own_ni x n := by
  rw [own_ni_or _ _ hk hn hv, own_ni_clr _ hk hn]
  by_cases e : n = k
  · rw [if_pos e, if_pos e, if_pos e, own_or00]
  · rw [if_neg e, if_neg e, if_neg e]
/-- bytes -/
def own_by (x : Int64) (n : Nat) : Int32 := Int64.toInt32 (Jvm.Free.XT.ushrL x (Int32.ofNat n * 8) &&& 255)
theorem own_byI (x : Int64) (k : Int32) (h0 : 0 ≤ k.toInt) : Int64.toInt32 (Jvm.Free.XT.ushrL x (k * 8) &&& 255) = own_by x (ix k) := by unfold own_by; rw [← own_i32 k h0]
theorem own_bl_255 (j : Nat) (hj : j < 64) : own_bl 255 j = decide (j < 8) := by
  have k : ∀ j : Fin 64, own_bl 255 j.val = decide (j.val < 8) := by decide
  exact k ⟨j, hj⟩
theorem own_by_bit (x : Int64) {n : Nat} (hn : n < 8) (j : Nat) (hj : j < 32) : own_bt (own_by x n) j = (own_bl x (8 * n + j) && decide (j < 8)) := by
  obtain ⟨a, b, c⟩ := own_ix8 hn
  unfold own_by
  rw [own_bt_t32 _ _ hj, own_bl_and, own_bl_ushr _ _ a b, c, own_bl_255 j (by omega)]
theorem own_255s {k : Nat} (hk : k < 8) (i : Nat) (hi : i < 64) : own_bl ((255 : Int64) <<< ((Int32.ofNat k * 8).toInt64 &&& 63)) i = decide (8 * k ≤ i ∧ i < 8 * k + 8) := by
  obtain ⟨a, b, c⟩ := own_ix8 hk
  rw [own_bl_shl _ _ a b i hi, c]
  by_cases l : 8 * k ≤ i
  · rw [own_bl_255 _ (by omega)]
    by_cases l2 : i - 8 * k < 8
    · have : i < 8 * k + 8 := by omega
      simp [l, l2, this]
    · have : ¬ i < 8 * k + 8 := by omega
      simp [l, l2, this]
  · simp [l]
theorem own_by_clr (x : Int64) {k n : Nat} (hk : k < 8) (hn : n < 8) : own_by (x &&& (((255 : Int64) <<< ((Int32.ofNat k * 8).toInt64 &&& 63)) ^^^ (-1))) n = if n = k then 0 else own_by x n := by
  apply own_bt_ext
  intro j hj
  rw [own_by_bit _ hn j hj]
  by_cases l : j < 8
  · rw [own_bl_and, own_bl_neg _ _ (by omega), own_255s hk _ (by omega)]
    by_cases e : n = k
    · subst e
      rw [if_pos rfl, own_bt_0]
      simp [l]
    · rw [if_neg e, own_by_bit _ hn j hj]
      have : ¬ (8 * k ≤ 8 * n + j ∧ 8 * n + j < 8 * k + 8) := by omega
      simp [this]
  · by_cases e : n = k
    · rw [if_pos e, own_bt_0]; simp [l]
    · rw [if_neg e, own_by_bit _ hn j hj]; simp [l]
/-- a byte is laid over: the place may be any int that stands for 8 k -/
theorem own_by_or (x y : Int64) (q : Int32) {k n : Nat} (hk : k < 8) (hn : n < 8) (q0 : 0 ≤ q.toInt) (qk : q.toInt = 8 * k) (v : Int32) (hy : ∀ j, own_bl y j = own_bt v j) (hv : ∀ j, 8 ≤ j → own_bt v j = false) : own_by (x ||| (y <<< (q.toInt64 &&& 63))) n = if n = k then own_by x n ||| v else own_by x n := by
  have c := ix_int q0
  apply own_bt_ext
  intro j hj
  rw [own_by_bit _ hn j hj]
  by_cases l : j < 8
  · rw [own_bl_or, own_bl_shl _ _ q0 (by omega) _ (by omega), hy]
    by_cases e : n = k
    · subst e
      rw [if_pos rfl, own_bt_orr, own_by_bit _ hn j hj]
      have e1 : ix q = 8 * n := by omega
      rw [e1]
      simp [l]
    · rw [if_neg e, own_by_bit _ hn j hj]
      by_cases w : ix q ≤ 8 * n + j
      · rw [hv _ (by omega)]; simp [l]
      · simp [w]
  · by_cases e : n = k
    · rw [if_pos e, own_bt_orr, own_by_bit _ hn j hj, hv j (by omega)]; simp [l]
    · rw [if_neg e, own_by_bit _ hn j hj]; simp [l]
theorem own_vhi {v : Int32} (h : 0 ≤ v.toInt ∧ v.toInt < 256) (j : Nat) (hj : 8 ≤ j) : own_bt v j = false := by
  by_cases l : j < 32
  · have m := Jvm.Kit.i32_mask v 255 (k := 8) (by decide) (by decide)
    have p : ((2 : Int) ^ 8) = 256 := by decide
    have e : v &&& 255 = v := (i32_eq).mpr (by rw [m, p]; omega)
    have k : ∀ j : Fin 32, own_bt 255 j.val = decide (j.val < 8) := by decide
    have b := own_bt_and v 255 j
    rw [e, k ⟨j, l⟩] at b
    have : ¬ j < 8 := by omega
    rw [b]; simp [this]
  · exact own_bt_hi _ _ (by omega)
theorem own_by_set (x : Int64) (v : Int32) (h : 0 ≤ v.toInt ∧ v.toInt < 256) {k n : Nat} (hk : k < 8) (hn : n < 8) : own_by ((x &&& (((255 : Int64) <<< ((Int32.ofNat k * 8).toInt64 &&& 63)) ^^^ (-1))) ||| ((Int32.toInt64 v) <<< ((Int32.ofNat k * 8).toInt64 &&& 63))) n = if n = k then v else own_by x n := by
  obtain ⟨a, b, c⟩ := own_ix8 hk
  have ci := ix_int a
  rw [own_by_or _ _ _ hk hn a (by omega) v (own_bl_i64 v h.1) (own_vhi h), own_by_clr _ hk hn]
  by_cases e : n = k
  · rw [if_pos e, if_pos e, if_pos e, own_or00]
  · rw [if_neg e, if_neg e, if_neg e]
theorem own_by_64 (x : Int64) {k n : Nat} (hk : k < 8) (hn : n < 8) : own_by (x ||| ((64 : Int64) <<< ((Int32.ofNat k * 8).toInt64 &&& 63))) n = if n = k then own_by x n ||| 64 else own_by x n := by
  obtain ⟨a, b, c⟩ := own_ix8 hk
  have ci := ix_int a
  have y : ∀ j, own_bl 64 j = own_bt 64 j := fun j => own_bl_i64 64 (by decide) j
  exact own_by_or _ _ _ hk hn a (by omega) 64 y (own_vhi (by decide))
/-- half a long -/
theorem own_bl_ff (j : Nat) (hj : j < 64) : own_bl 4294967295 j = decide (j < 32) := by
  have k : ∀ j : Fin 64, own_bl 4294967295 j.val = decide (j.val < 32) := by decide
  exact k ⟨j, hj⟩
theorem own_ffs (q : Int32) {p : Nat} (hp : p < 2) (q0 : 0 ≤ q.toInt) (qp : q.toInt = 32 * p) (i : Nat) (hi : i < 64) : own_bl ((4294967295 : Int64) <<< (q.toInt64 &&& 63)) i = decide (i / 32 = p) := by
  have c := ix_int q0
  rw [own_bl_shl _ _ q0 (by omega) i hi]
  by_cases l : ix q ≤ i
  · rw [own_bl_ff _ (by omega)]
    by_cases l2 : i - ix q < 32
    · have : i / 32 = p := by omega
      simp [l, l2, this]
    · have : ¬ i / 32 = p := by omega
      simp [l, l2, this]
  · have : ¬ i / 32 = p := by omega
    simp [l, this]
theorem own_by_cl4 (x : Int64) (q : Int32) {p n : Nat} (hp : p < 2) (hn : n < 8) (q0 : 0 ≤ q.toInt) (qp : q.toInt = 32 * p) : own_by (x &&& (((4294967295 : Int64) <<< (q.toInt64 &&& 63)) ^^^ (-1))) n = if n / 4 = p then 0 else own_by x n := by
  apply own_bt_ext
  intro j hj
  rw [own_by_bit _ hn j hj]
  by_cases l : j < 8
  · rw [own_bl_and, own_bl_neg _ _ (by omega), own_ffs q hp q0 qp _ (by omega)]
    by_cases e : n / 4 = p
    · rw [if_pos e, own_bt_0]
      have : (8 * n + j) / 32 = p := by omega
      simp [this]
    · rw [if_neg e, own_by_bit _ hn j hj]
      have : ¬ (8 * n + j) / 32 = p := by omega
      simp [this]
  · by_cases e : n / 4 = p
    · rw [if_pos e, own_bt_0]; simp [l]
    · rw [if_neg e, own_by_bit _ hn j hj]; simp [l]
theorem own_by_0 (x : Int64) (q : Int32) {p : Nat} (hp : p < 2) (q0 : 0 ≤ q.toInt) (qp : q.toInt = 32 * p) : Int64.toInt32 ((Jvm.Free.XT.ushrL x q &&& 4294967295) &&& 255) = own_by x (4 * p) := by
  have c := ix_int q0
  apply own_bt_ext
  intro j hj
  rw [own_by_bit _ (by omega) j hj, own_bt_t32 _ _ hj, own_bl_and, own_bl_and, own_bl_ushr _ _ q0 (by omega), own_bl_255 j (by omega), own_bl_ff j (by omega)]
  have e : ix q + j = 8 * (4 * p) + j := by omega
  rw [e]
  simp [hj]
theorem own_by_sh (x : Int64) (q : Int32) {p n : Nat} (hp : p < 2) (hn : n < 8) (q0 : 0 ≤ q.toInt) (qp : q.toInt = 32 * p) : own_by ((x &&& (((4294967295 : Int64) <<< (q.toInt64 &&& 63)) ^^^ (-1))) ||| ((Jvm.Free.XT.ushrL (Jvm.Free.XT.ushrL x q &&& 4294967295) 8) <<< (q.toInt64 &&& 63))) n = if n / 4 = p then (if n % 4 = 3 then 0 else own_by x (n + 1)) else own_by x n := by
  have c := ix_int q0
  have i8 : ix (8 : Int32) = 8 := rfl
  apply own_bt_ext
  intro j hj
  rw [own_by_bit _ hn j hj]
  by_cases l : j < 8
  · rw [own_bl_or, own_bl_and, own_bl_neg _ _ (by omega), own_ffs q hp q0 qp _ (by omega), own_bl_shl _ _ q0 (by omega) _ (by omega), own_bl_ushr _ _ (by decide) (by decide), i8, own_bl_and, own_bl_ushr _ _ q0 (by omega)]
    by_cases e : n / 4 = p
    · rw [if_pos e]
      have e1 : (8 * n + j) / 32 = p := by omega
      have e2 : ix q ≤ 8 * n + j := by omega
      by_cases e3 : n % 4 = 3
      · rw [if_pos e3, own_bt_0]
        by_cases w : 8 + (8 * n + j - ix q) < 64
        · rw [own_bl_ff _ w]
          have : ¬ 8 + (8 * n + j - ix q) < 32 := by omega
          simp [this, e1]
        · rw [own_bl_hi 4294967295 _ (by omega)]
          simp [e1]
      · rw [if_neg e3, own_by_bit _ (by omega) j hj, own_bl_ff _ (by omega)]
        have e4 : 8 + (8 * n + j - ix q) < 32 := by omega
        have e5 : ix q + (8 + (8 * n + j - ix q)) = 8 * (n + 1) + j := by omega
        rw [e5]
        simp [e1, e2, e4, l]
    · rw [if_neg e, own_by_bit _ hn j hj]
      have e1 : ¬ (8 * n + j) / 32 = p := by omega
      by_cases e2 : ix q ≤ 8 * n + j
      · by_cases w : 8 + (8 * n + j - ix q) < 64
        · rw [own_bl_ff _ w]
          have : ¬ 8 + (8 * n + j - ix q) < 32 := by omega
          simp [this, e1]
        · rw [own_bl_hi 4294967295 _ (by omega)]
          simp [e1]
      · simp [e1, e2]
  · by_cases e : n / 4 = p
    · rw [if_pos e]
      by_cases e3 : n % 4 = 3
      · rw [if_pos e3, own_bt_0]; simp [l]
      · rw [if_neg e3, own_by_bit _ (by omega) j hj]; simp [l]
    · rw [if_neg e, own_by_bit _ hn j hj]; simp [l]

/-! the poller with two pipes and two polls, as a function -/
theorem own_sh1 (x : Int32) : (x >>> ((1 : Int32) &&& 31)).toInt = x.toInt / 2 := Jvm.Kit.i32_shr x ((1 : Int32) &&& 31) (k := 1) (by decide)
theorem own_hx {x : Int32} (h : 0 ≤ x.toInt ∧ x.toInt < 4) : inb 8 (x >>> ((1 : Int32) &&& 31)) ∧ ix (x >>> ((1 : Int32) &&& 31)) = ix x / 2 := by
  have a := own_sh1 x
  have b := ix_int h.1
  have c := ix_int (i := x >>> ((1 : Int32) &&& 31)) (by omega)
  exact ⟨⟨by omega, by show _ < (8 : Int); omega⟩, by omega⟩
theorem own_odd (x : Int32) (h : 0 ≤ x.toInt) : x &&& 1 = 0 ↔ ix x % 2 = 0 := by
  have m := Jvm.Kit.i32_mask x 1 (k := 1) (by decide) (by decide)
  have e : ((2 : Int) ^ 1) = 2 := by decide
  rw [e] at m
  have b := ix_int h
  rw [i32_eq, m]
  show x.toInt % 2 = 0 ↔ _
  omega
/-- is an end open -/
def own_op (s : St) (f : Nat) : Int32 := if f % 2 = 0 then gI s 1 (f / 2) else gI s 2 (f / 2)
/-- its readiness -/
def own_ry (s : St) (f : Nat) : Int32 := if f % 2 = 0 then (if 0 < gI s 5 (f / 2) then (if gI s 2 (f / 2) = 0 then 5 else 1) else (if gI s 2 (f / 2) = 0 then 5 else 0)) else (if gI s 5 (f / 2) < gI s 0 18 then (if gI s 1 (f / 2) = 0 then 10 else 2) else (if gI s 1 (f / 2) = 0 then 10 else 0))
/-- the poller's order -/
def own_B (s : St) : Prop := gI s 0 17 = 2 ∧ gI s 0 19 = 2 ∧ (1 ≤ (gI s 0 18).toInt ∧ (gI s 0 18).toInt ≤ 4) ∧ (∀ p, p < 2 → (gI s 1 p = 0 ∨ gI s 1 p = 1) ∧ (gI s 2 p = 0 ∨ gI s 2 p = 1))
theorem own_op01 {s : St} (B : own_B s) {f : Nat} (hf : f < 4) : own_op s f = 0 ∨ own_op s f = 1 := by
  unfold own_op
  split
  · exact (B.2.2.2 _ (by omega)).1
  · exact (B.2.2.2 _ (by omega)).2
/-- isOpen -/
theorem own_i3 (s : St) (B : own_B s) (fd : Int32) (h : 0 ≤ fd.toInt ∧ fd.toInt < 4) (Q : Int32 → St → Prop) (hQ : Q (own_op s (ix fd)) s) : calI PP 3 11 [.ref 0, .int fd] s Q := by
  have e4 : (2 : Int32) * gI s 0 17 = 4 := by rw [B.1]; decide
  obtain ⟨hb, hi⟩ := own_hx h
  have xf := ix_int h.1
  have od := own_odd fd h.1
  have o1 := own_op01 B (f := ix fd) (by omega)
  have a1 : own_op s (ix fd) &&& 1 = own_op s (ix fd) := by rcases o1 with w | w <;> rw [w] <;> decide
  apply c3_in
  rw [e4, hi]
  refine ⟨fun q => absurd q (by rw [i32_lt]; simp; omega), fun _ => ⟨fun _ => ⟨fun a => ⟨hb, ?_⟩, fun a => ⟨hb, ?_⟩⟩, fun q => absurd (by rw [i32_lt]; show _ < (4 : Int); omega) q⟩⟩
  · rw [od] at a
    have e : own_op s (ix fd) = gI s 1 (ix fd / 2) := if_pos a
    rw [← e, a1]; exact hQ
  · rw [od] at a
    have e : own_op s (ix fd) = gI s 2 (ix fd / 2) := if_neg a
    rw [← e, a1]; exact hQ
/-- rawReady -/
theorem own_i4 (s : St) (fd : Int32) (h : 0 ≤ fd.toInt ∧ fd.toInt < 4) (Q : Int32 → St → Prop) (hQ : Q (own_ry s (ix fd)) s) : calI PP 4 11 [.ref 0, .int fd] s Q := by
  obtain ⟨hb, hi⟩ := own_hx h
  have od := own_odd fd h.1
  unfold own_ry at hQ
  apply c4_in
  rw [hi]
  refine ⟨fun a => ⟨hb, fun b => ⟨hb, fun c => ?_, fun c => ?_⟩, fun b => ⟨hb, fun m em => ⟨hb, fun c => ?_, fun c => ?_⟩⟩⟩, fun a => ⟨hb, fun b => ⟨hb, fun c => ?_, fun c => ?_⟩, fun b => ⟨hb, fun m em => ⟨hb, fun c => ?_, fun c => ?_⟩⟩⟩⟩
  · rw [if_pos (od.mp a), if_pos b, if_pos c] at hQ; exact hQ
  · rw [if_pos (od.mp a), if_pos b, if_neg c] at hQ; exact hQ
  · rw [if_pos (od.mp a), if_neg b, if_pos c] at hQ; rw [em, if_pos c]; exact hQ
  · rw [if_pos (od.mp a), if_neg b, if_neg c] at hQ; rw [em, if_neg c]; exact hQ
  · rw [if_neg (fun w => a (od.mpr w)), if_pos b, if_pos c] at hQ; exact hQ
  · rw [if_neg (fun w => a (od.mpr w)), if_pos b, if_neg c] at hQ; exact hQ
  · rw [if_neg (fun w => a (od.mpr w)), if_neg b, if_pos c] at hQ; rw [em, if_pos c]; exact hQ
  · rw [if_neg (fun w => a (od.mpr w)), if_neg b, if_neg c] at hQ; rw [em, if_neg c]; exact hQ
/-- fdReadiness, as the law reads it -/
def own_rd (s : St) (f : Nat) : Int32 := if own_op s f = 0 then 0 else own_ry s f
theorem own_ry_v (s : St) (f : Nat) : own_ry s f ∈ [(0 : Int32), 1, 2, 5, 10] := by
  unfold own_ry
  split <;> split <;> split <;> decide
theorem own_i27 (s : St) (B : own_B s) (fd : Int32) (h : 0 ≤ fd.toInt ∧ fd.toInt < 4) (Q : Int32 → St → Prop) (h0 : own_op s (ix fd) = 0 → Q (-1) s) (h1 : own_op s (ix fd) ≠ 0 → Q (own_ry s (ix fd)) s) : calI PP 27 11 [.ref 0, .int fd] s Q := by
  apply c27_in
  exact own_i3 s B fd h _ ⟨fun a => h0 a, fun a => own_i4 s fd h _ (h1 a)⟩
/-- slot -/
theorem own_sx {q fd : Int32} (hq : 0 ≤ q.toInt ∧ q.toInt < 2) (h : 0 ≤ fd.toInt ∧ fd.toInt < 4) : inb 64 (q * 16 + fd) ∧ ix (q * 16 + fd) = 16 * ix q + ix fd := by
  have e1 : (q * 16).toInt = q.toInt * 16 := by rw [i32_mul] <;> simp <;> omega
  have e2 : (q * 16 + fd).toInt = q.toInt * 16 + fd.toInt := by rw [i32_add] <;> rw [e1] <;> omega
  have a := ix_int hq.1
  have b := ix_int h.1
  have c := ix_int (i := q * 16 + fd) (by omega)
  exact ⟨⟨by omega, by show _ < (64 : Int); omega⟩, by omega⟩
theorem own_nn0 {x : Int32} (h : 0 ≤ x.toInt) : ¬ x < 0 := by
  have l : x < 0 ↔ x.toInt < 0 := i32_lt
  rw [l]; omega
def own_wa (w : Int32) : Int32 := ((w &&& 3) ||| 4) ||| 8
/-- peek -/
def own_pk (s : St) (i f : Nat) : Int32 := if gI s 8 i = 0 then 0 else if gI s 7 i &&& 16 = 0 then own_ry s f &&& own_wa (gI s 7 i) else gI s 9 i
theorem own_i9 (s : St) (i fd : Int32) (ib : inb 64 i) (h : 0 ≤ fd.toInt ∧ fd.toInt < 4) (Q : Int32 → St → Prop) (hQ : Q (own_pk s (ix i) (ix fd)) s) : calI PP 9 11 [.ref 0, .int i, .int fd] s Q := by
  unfold own_pk at hQ
  apply c9_in
  refine ⟨ib, fun a => ?_, fun a => ⟨ib, fun b => own_i4 s fd h _ ⟨ib, c5_in _ _ _ ?_⟩, fun b => ⟨ib, ?_⟩⟩⟩
  · rw [if_pos a] at hQ; exact hQ
  · rw [if_neg a, if_pos b] at hQ; exact hQ
  · rw [if_neg a, if_neg b] at hQ; exact hQ
theorem own_i6 (s : St) (B : own_B s) (q : Int32) (hq : 0 ≤ q.toInt ∧ q.toInt < 2) (Q : Int32 → St → Prop) (h : Q 1 s) : calI PP 6 11 [.ref 0, .int q] s Q := by
  apply c6_in
  rw [B.2.1]
  exact ⟨fun a => absurd a (by rw [i32_lt]; simp; omega), fun _ => ⟨fun _ => h, fun b => absurd (by rw [i32_lt]; show _ < (2 : Int); omega) b⟩⟩
/-- lookup -/
theorem own_i14 (s : St) (B : own_B s) (q fd : Int32) (hq : 0 ≤ q.toInt ∧ q.toInt < 2) (h : 0 ≤ fd.toInt ∧ fd.toInt < 4) (Q : Int32 → St → Prop) (h0 : own_op s (ix fd) = 0 ∨ gI s 6 (16 * ix q + ix fd) = 0 → Q (-1) s) (h1 : own_op s (ix fd) ≠ 0 → gI s 6 (16 * ix q + ix fd) ≠ 0 → Q (q * 16 + fd) s) : calI PP 14 11 [.ref 0, .int q, .int fd] s Q := by
  obtain ⟨ib, ei⟩ := own_sx hq h
  apply c14_in
  refine own_i6 s B q hq _ ⟨fun w => absurd w (by decide), fun _ => own_i3 s B fd h _ ⟨fun a => h0 (Or.inl a), fun a => c8_in _ _ _ _ ⟨ib, fun b => ?_, fun b => ?_⟩⟩⟩
  · rw [ei] at b; exact h0 (Or.inr b)
  · rw [ei] at b; exact h1 a b
/-- regInfo, peekReady -/
theorem own_i28 (s : St) (B : own_B s) (q fd : Int32) (hq : 0 ≤ q.toInt ∧ q.toInt < 2) (h : 0 ≤ fd.toInt ∧ fd.toInt < 4) (Q : Int32 → St → Prop) (h0 : own_op s (ix fd) = 0 ∨ gI s 6 (16 * ix q + ix fd) = 0 → Q (-1) s) (h1 : own_op s (ix fd) ≠ 0 → gI s 6 (16 * ix q + ix fd) ≠ 0 → Q (if gI s 8 (16 * ix q + ix fd) = 0 then gI s 7 (16 * ix q + ix fd) ||| 64 else gI s 7 (16 * ix q + ix fd)) s) : calI PP 28 11 [.ref 0, .int q, .int fd] s Q := by
  obtain ⟨ib, ei⟩ := own_sx hq h
  apply c28_in
  refine own_i14 s B q fd hq h _ (fun a => ⟨fun _ => h0 a, fun w => absurd (by decide) w⟩) fun a b => ⟨fun w => absurd w (own_nn0 ib.1), fun _ => ⟨ib, ib, fun c => ?_, fun c => ?_⟩⟩
  · have := h1 a b; rw [ei] at c ⊢; rw [if_pos c] at this; exact this
  · have := h1 a b; rw [ei] at c ⊢; rw [if_neg c] at this; exact this
theorem own_i29 (s : St) (B : own_B s) (q fd : Int32) (hq : 0 ≤ q.toInt ∧ q.toInt < 2) (h : 0 ≤ fd.toInt ∧ fd.toInt < 4) (Q : Int32 → St → Prop) (h0 : own_op s (ix fd) = 0 ∨ gI s 6 (16 * ix q + ix fd) = 0 → Q (-1) s) (h1 : own_op s (ix fd) ≠ 0 → gI s 6 (16 * ix q + ix fd) ≠ 0 → Q (own_pk s (16 * ix q + ix fd) (ix fd)) s) : calI PP 29 11 [.ref 0, .int q, .int fd] s Q := by
  obtain ⟨ib, ei⟩ := own_sx hq h
  apply c29_in
  refine own_i14 s B q fd hq h _ (fun a => ⟨fun _ => h0 a, fun w => absurd (by decide) w⟩) fun a b => ⟨fun w => absurd w (own_nn0 ib.1), fun _ => own_i9 s _ fd ib h _ ?_⟩
  rw [ei]; exact h1 a b

theorem own_B_cg {s t : St} (B : own_B s) (h : ∀ c j, c ≠ 9 → gI t c j = gI s c j) : own_B t := by
  unfold own_B
  simp only [h 0 _ (show (0 : Nat) ≠ 9 by decide), h 1 _ (show (1 : Nat) ≠ 9 by decide), h 2 _ (show (2 : Nat) ≠ 9 by decide)]
  exact B
theorem own_op_cg {s t : St} (h1 : ∀ j, gI t 1 j = gI s 1 j) (h2 : ∀ j, gI t 2 j = gI s 2 j) (f : Nat) : own_op t f = own_op s f := by unfold own_op; rw [h1, h2]
theorem own_ry_cg {s t : St} (f : Nat) (h0 : gI t 0 18 = gI s 0 18) (h1 : gI t 1 (f / 2) = gI s 1 (f / 2)) (h2 : gI t 2 (f / 2) = gI s 2 (f / 2)) (h5 : gI t 5 (f / 2) = gI s 5 (f / 2)) : own_ry t f = own_ry s f := by unfold own_ry; rw [h0, h1, h2, h5]

/-! the poller's state against the law's words -/
def own_sl (s : St) (x10 : Int64) (x4 : Int32) (q f : Nat) : Prop := gI s 9 (16 * q + f) = own_ni x4 (4 * q + f) ∧ (gI s 6 (16 * q + f) = 0 → own_by x10 (4 * q + f) = 0) ∧ (gI s 6 (16 * q + f) ≠ 0 → own_op s f ≠ 0 ∧ gI s 7 (16 * q + f) &&& (-52) = 0 ∧ own_by x10 (4 * q + f) = (128 ||| gI s 7 (16 * q + f)) ||| (if gI s 8 (16 * q + f) = 0 then 64 else 0))
def own_dt (s : St) (x8 : Int64) (p : Nat) : Prop := (0 ≤ (gI s 4 p).toInt ∧ (gI s 4 p).toInt < 16) ∧ ∀ k, k < 4 → own_by x8 (4 * p + k) = if k < ix (gI s 5 p) then gI s 3 (16 * p + (ix (gI s 4 p) + k) % 16) else 0
def own_rs (s : St) (x5 x6 x7 : Int32) : Prop := x5 = gI s 0 31 ∧ (0 ≤ x5.toInt ∧ x5.toInt ≤ 4) ∧ ∀ j, j < ix x5 → gI s 10 j = own_ni x6 j ∧ gI s 11 j = own_ni x7 j
def own_cc (s : St) (x3 : Int32) : Prop := (0 ≤ (gI s 5 0).toInt ∧ (gI s 5 0).toInt ≤ 4) ∧ (0 ≤ (gI s 5 1).toInt ∧ (gI s 5 1).toInt ≤ 4) ∧ x3.toInt = (gI s 5 0).toInt + 16 * (gI s 5 1).toInt
def own_oo (s : St) (x2 : Int32) : Prop := ∀ f, f < 4 → own_op s f = if own_bt x2 f then 1 else 0
def own_I (x2 x3 x4 x5 x6 x7 : Int32) (x8 x10 : Int64) (s : St) : Prop := (own_B s ∧ gI s 0 18 = 4) ∧ own_oo s x2 ∧ own_cc s x3 ∧ (∀ q f, q < 2 → f < 4 → own_sl s x10 x4 q f) ∧ (∀ p, p < 2 → own_dt s x8 p) ∧ own_rs s x5 x6 x7
theorem own_lt4 {x : Int32} : x < 4 ↔ x.toInt < 4 := i32_lt
theorem own_lt0 {x : Int32} : x < 0 ↔ x.toInt < 0 := i32_lt
theorem own_lt2 {x : Int32} : x < 2 ↔ x.toInt < 2 := i32_lt
theorem own_lt1 {x : Int32} : x < 1 ↔ x.toInt < 1 := i32_lt
theorem own_gt3 {x : Int32} : (3 : Int32) < x ↔ 3 < x.toInt := i32_lt
theorem own_gt0 {x : Int32} : (0 : Int32) < x ↔ 0 < x.toInt := i32_lt
/-- isOpen, of any number -/
def own_oq (s : St) (fd : Int32) : Int32 := if 0 ≤ fd.toInt ∧ fd.toInt < 4 then own_op s (ix fd) else 0
theorem own_j3 (s : St) (B : own_B s) (fd : Int32) (Q : Int32 → St → Prop) (hQ : Q (own_oq s fd) s) : calI PP 3 11 [.ref 0, .int fd] s Q := by
  unfold own_oq at hQ
  by_cases h : 0 ≤ fd.toInt ∧ fd.toInt < 4
  · rw [if_pos h] at hQ
    exact own_i3 s B fd h Q hQ
  · rw [if_neg h] at hQ
    have e4 : (2 : Int32) * gI s 0 17 = 4 := by rw [B.1]; decide
    apply c3_in
    rw [e4]
    exact ⟨fun _ => hQ, fun a => ⟨fun b => absurd ⟨by rw [own_lt0] at a; omega, by rw [own_lt4] at b; exact b⟩ h, fun _ => hQ⟩⟩
/-- the law's rd -/
def own_rq (s : St) (fd : Int32) : Int32 := if own_oq s fd = 0 then -1 else own_ry s (ix fd)
theorem own_j27 (s : St) (B : own_B s) (fd : Int32) (Q : Int32 → St → Prop) (hQ : Q (own_rq s fd) s) : calI PP 27 11 [.ref 0, .int fd] s Q := by
  unfold own_rq at hQ
  apply c27_in
  refine own_j3 s B fd _ ⟨fun a => by rw [if_pos a] at hQ; exact hQ, fun a => ?_⟩
  rw [if_neg a] at hQ
  by_cases h : 0 ≤ fd.toInt ∧ fd.toInt < 4
  · exact own_i4 s fd h _ hQ
  · exact absurd (by unfold own_oq; rw [if_neg h]) a
theorem own_cn0 : ∀ a : Fin 5, ∀ b : Fin 5, (Int32.ofNat (a.val + 16 * b.val) >>> (((0 : Int32) * 4) &&& 31)) &&& 15 = Int32.ofNat a.val ∧ (Int32.ofNat (a.val + 16 * b.val) >>> (((1 : Int32) * 4) &&& 31)) &&& 15 = Int32.ofNat b.val := by decide +kernel
theorem own_p01 {p : Int32} (h : 0 ≤ p.toInt ∧ p.toInt < 2) : p = 0 ∨ p = 1 := by
  by_cases c : p.toInt = 0
  · exact Or.inl ((i32_eq).mpr c)
  · exact Or.inr ((i32_eq).mpr (by show _ = (1 : Int); omega))
theorem own_cn {s : St} {x3 : Int32} (C : own_cc s x3) (p : Int32) (hp : 0 ≤ p.toInt ∧ p.toInt < 2) : (x3 >>> ((p * 4) &&& 31)) &&& 15 = gI s 5 (ix p) := by
  obtain ⟨c0, c1, e⟩ := C
  have k0 := ix_int c0.1
  have k1 := ix_int c1.1
  have x0 := ix_int (i := x3) (by omega)
  have key := own_cn0 ⟨ix (gI s 5 0), by omega⟩ ⟨ix (gI s 5 1), by omega⟩
  have ex : x3 = Int32.ofNat (ix (gI s 5 0) + 16 * ix (gI s 5 1)) := by
    rw [own_i32 x3 (by omega)]
    have : ix x3 = ix (gI s 5 0) + 16 * ix (gI s 5 1) := by omega
    rw [this]
  simp only at key
  rw [← ex, ← own_i32 (gI s 5 0) c0.1, ← own_i32 (gI s 5 1) c1.1] at key
  rcases own_p01 hp with q | q
  · subst q; exact key.1
  · subst q; exact key.2
theorem own_l3 (N : Nat) (sg : Nat → Int32) {x2 x3 : Int32} (s w : St) (B : own_B s) (c4 : gI s 0 18 = 4) (O : own_oo s x2) (C : own_cc s x3) (fd : Int32) (Q : Int32 → Wd → Prop) (hQ : Q (own_rq s fd) (W1 w)) : lalI PP QQ (some (N, sg)) 3 [.int x2, .int x3, .int fd] (W1 w) Q := by
  unfold own_rq own_oq at hQ
  apply l3W1_in
  by_cases h : 0 ≤ fd.toInt ∧ fd.toInt < 4
  · rw [if_pos h] at hQ
    have xf := ix_int h.1
    have o := O (ix fd) (by omega)
    have od := own_odd fd h.1
    have hb := own_bt_shr x2 fd h.1 (by omega)
    have hp := own_sh1 fd
    have cn := own_cn C (fd >>> ((1 : Int32) &&& 31)) (by omega)
    have ip := (own_hx h).2
    rw [ip] at cn
    have B4 := B.2.2.2 (ix fd / 2) (by omega)
    refine ⟨fun z => absurd z (by rw [own_lt0]; omega), fun _ => ⟨fun z => absurd z (by rw [own_gt3]; omega), fun _ => ⟨fun z => ?_, fun z => ?_⟩⟩⟩
    · rw [hb] at z
      rw [z] at o
      rw [if_pos (by rw [o]; rfl)] at hQ; exact hQ
    · rw [hb] at z
      have z : own_bt x2 (ix fd) = true := by simpa using z
      rw [z] at o
      have o : own_op s (ix fd) = 1 := o
      rw [if_neg (by rw [o]; decide)] at hQ
      rw [cn]
      unfold own_ry at hQ
      refine ⟨fun a m hm m2 hm2 => ?_, fun a m hm m2 hm2 => ?_⟩
      · have e := od.mp a
        rw [if_pos e] at hQ
        have e1 : (fd + 1).toInt = fd.toInt + 1 := by rw [i32_add] <;> simp <;> omega
        have x1 := ix_int (i := fd + 1) (by omega)
        have o2 := O (ix (fd + 1)) (by omega)
        have e2 : own_op s (ix (fd + 1)) = gI s 2 (ix fd / 2) := by
          unfold own_op
          rw [if_neg (by omega)]
          have : ix (fd + 1) / 2 = ix fd / 2 := by omega
          rw [this]
        rw [e2] at o2
        have hb2 := own_bt_shr x2 (fd + 1) (by omega) (by omega)
        have em : m = if gI s 2 (ix fd / 2) = 0 then 1 else 0 := by
          rw [hm]
          by_cases c : own_bt x2 (ix (fd + 1)) = false
          · rw [if_pos (hb2.mpr c), o2, c]; rfl
          · rw [if_neg (fun w => c (hb2.mp w)), o2]
            have c : own_bt x2 (ix (fd + 1)) = true := by simpa using c
            rw [c]; rfl
        apply l3W1_67
        rw [hm2, em]
        by_cases g : 0 < gI s 5 (ix fd / 2)
        · rw [if_pos g] at hQ ⊢
          by_cases c : gI s 2 (ix fd / 2) = 0
          · rw [if_pos c] at hQ ⊢
            exact ⟨fun q => absurd q (by decide), fun _ => hQ⟩
          · rw [if_neg c] at hQ ⊢
            exact ⟨fun _ => hQ, fun q => absurd rfl q⟩
        · rw [if_neg g] at hQ ⊢
          by_cases c : gI s 2 (ix fd / 2) = 0
          · rw [if_pos c] at hQ ⊢
            exact ⟨fun q => absurd q (by decide), fun _ => hQ⟩
          · rw [if_neg c] at hQ ⊢
            exact ⟨fun _ => hQ, fun q => absurd rfl q⟩
      · have e : ¬ ix fd % 2 = 0 := fun w => a (od.mpr w)
        rw [if_neg e] at hQ
        have e1 : (fd - 1).toInt = fd.toInt - 1 := by rw [i32_sub] <;> simp <;> omega
        have x1 := ix_int (i := fd - 1) (by omega)
        have o2 := O (ix (fd - 1)) (by omega)
        have e2 : own_op s (ix (fd - 1)) = gI s 1 (ix fd / 2) := by
          unfold own_op
          rw [if_pos (by omega)]
          have : ix (fd - 1) / 2 = ix fd / 2 := by omega
          rw [this]
        rw [e2] at o2
        have hb2 := own_bt_shr x2 (fd - 1) (by omega) (by omega)
        have em : m = if gI s 1 (ix fd / 2) = 0 then 1 else 0 := by
          rw [hm]
          by_cases c : own_bt x2 (ix (fd - 1)) = false
          · rw [if_pos (hb2.mpr c), o2, c]; rfl
          · rw [if_neg (fun w => c (hb2.mp w)), o2]
            have c : own_bt x2 (ix (fd - 1)) = true := by simpa using c
            rw [c]; rfl
        apply l3W1_111
        rw [hm2, em]
        rw [c4] at hQ
        by_cases g : gI s 5 (ix fd / 2) < 4
        · rw [if_pos g] at hQ ⊢
          by_cases c : gI s 1 (ix fd / 2) = 0
          · rw [if_pos c] at hQ ⊢
            exact ⟨fun q => absurd q (by decide), fun _ => hQ⟩
          · rw [if_neg c] at hQ ⊢
            exact ⟨fun _ => hQ, fun q => absurd rfl q⟩
        · rw [if_neg g] at hQ ⊢
          by_cases c : gI s 1 (ix fd / 2) = 0
          · rw [if_pos c] at hQ ⊢
            exact ⟨fun q => absurd q (by decide), fun _ => hQ⟩
          · rw [if_neg c] at hQ ⊢
            exact ⟨fun _ => hQ, fun q => absurd rfl q⟩
  · rw [if_neg h, if_pos rfl] at hQ
    refine ⟨fun _ => hQ, fun a => ⟨fun _ => hQ, fun b => absurd ⟨by rw [own_lt0] at a; omega, by rw [own_gt3] at b; omega⟩ h⟩⟩

/-- the byte of a registration -/
theorem own_w63 {w : Int32} (h : w &&& (-52) = 0) : 0 ≤ w.toInt ∧ w.toInt < 64 := by
  have hb : ∀ j, 6 ≤ j → j < 32 → own_bt w j = false := fun j h6 h32 => by
    have k : ∀ j : Fin 32, 6 ≤ j.val → own_bt (-52) j.val = true := by decide
    have z := congrArg (fun y => own_bt y j) h
    simp only [own_bt_and, own_bt_0, k ⟨j, h32⟩ h6, Bool.and_true] at z
    exact z
  have b63 : ∀ j : Fin 32, own_bt 63 j.val = decide (j.val < 6) := by decide
  have e : w &&& 63 = w := own_bt_ext fun j hj => by
    rw [own_bt_and, b63 ⟨j, hj⟩]
    by_cases l : j < 6
    · simp [l]
    · rw [hb j (by omega) hj]; rfl
  have m := Jvm.Kit.i32_mask w 63 (k := 6) (by decide) (by decide)
  have p : ((2 : Int) ^ 6) = 64 := by decide
  rw [e, p] at m
  omega
def own_bb (w e : Int32) : Int32 := (128 ||| w) ||| (if e = 0 then 64 else 0)
theorem own_bb0 : ∀ n : Fin 64, Int32.ofNat n.val &&& (-52) = 0 → ∀ x ∈ [(64 : Int32), 0], ((128 ||| Int32.ofNat n.val) ||| x ≠ 0) ∧ (0 ≤ ((128 ||| Int32.ofNat n.val) ||| x).toInt ∧ ((128 ||| Int32.ofNat n.val) ||| x).toInt < 256) ∧ (((128 ||| Int32.ofNat n.val) ||| x) &&& 64 = x) ∧ (((128 ||| Int32.ofNat n.val) ||| x) &&& 16 = Int32.ofNat n.val &&& 16) ∧ ((((128 ||| Int32.ofNat n.val) ||| x) &&& 3) ||| 12 = ((Int32.ofNat n.val &&& 3) ||| 4) ||| 8) ∧ (((128 ||| Int32.ofNat n.val) ||| x) &&& 127 = Int32.ofNat n.val ||| x) ∧ (((128 ||| Int32.ofNat n.val) ||| x) &&& 32 = Int32.ofNat n.val &&& 32) ∧ (((128 ||| Int32.ofNat n.val) ||| x) ||| 64 = (128 ||| Int32.ofNat n.val) ||| 64) ∧ (Int32.ofNat n.val ||| 0 = Int32.ofNat n.val) ∧ (((128 ||| Int32.ofNat n.val) ||| x) &&& 48 = Int32.ofNat n.val &&& 48) ∧ ((128 ||| Int32.ofNat n.val) ||| 0 = 128 ||| Int32.ofNat n.val) := by decide +kernel
theorem own_bbx {w e : Int32} (h : w &&& (-52) = 0) : own_bb w e ≠ 0 ∧ (0 ≤ (own_bb w e).toInt ∧ (own_bb w e).toInt < 256) ∧ (own_bb w e &&& 64 = if e = 0 then 64 else 0) ∧ (own_bb w e &&& 16 = w &&& 16) ∧ ((own_bb w e &&& 3) ||| 12 = own_wa w) ∧ (own_bb w e &&& 127 = if e = 0 then w ||| 64 else w) ∧ (own_bb w e &&& 32 = w &&& 32) ∧ (own_bb w e ||| 64 = own_bb w 0) ∧ (own_bb w e &&& 48 = w &&& 48) ∧ (128 ||| w = own_bb w 1) := by
  have r := own_w63 h
  have x := ix_int r.1
  have k := own_bb0 ⟨ix w, by omega⟩
  simp only at k
  rw [← own_i32 w r.1] at k
  have k := k h
  have k0 := k 64 (by decide)
  have k1 := k 0 (by decide)
  unfold own_bb own_wa
  by_cases c : e = 0
  · simp only [if_pos c]
    exact ⟨k0.1, k0.2.1, k0.2.2.1, k0.2.2.2.1, k0.2.2.2.2.1, k0.2.2.2.2.2.1, k0.2.2.2.2.2.2.1, k0.2.2.2.2.2.2.2.1, k0.2.2.2.2.2.2.2.2.2.1, by rw [if_neg (by decide)]; exact k0.2.2.2.2.2.2.2.2.2.2.symm⟩
  · simp only [if_neg c]
    refine ⟨k1.1, k1.2.1, k1.2.2.1, k1.2.2.2.1, k1.2.2.2.2.1, ?_, k1.2.2.2.2.2.2.1, k1.2.2.2.2.2.2.2.1, k1.2.2.2.2.2.2.2.2.2.1, by rw [if_neg (by decide)]; exact k1.2.2.2.2.2.2.2.2.2.2.symm⟩
    rw [k1.2.2.2.2.2.1]; exact k1.2.2.2.2.2.2.2.2.1
theorem own_slb {s : St} {x10 : Int64} {x4 : Int32} {q f : Nat} (S : own_sl s x10 x4 q f) (r : gI s 6 (16 * q + f) ≠ 0) : own_by x10 (4 * q + f) = own_bb (gI s 7 (16 * q + f)) (gI s 8 (16 * q + f)) := (S.2.2 r).2.2
/-- peek of a slot -/
def own_pq (s : St) (n : Nat) : Int32 := if gI s 6 (16 * (n / 4) + n % 4) = 0 then -1 else own_pk s (16 * (n / 4) + n % 4) (n % 4)
theorem own_k3 {k : Int32} (h : 0 ≤ k.toInt ∧ k.toInt < 8) : (0 ≤ (k &&& 3).toInt ∧ (k &&& 3).toInt < 4) ∧ ix (k &&& 3) = ix k % 4 ∧ (0 ≤ (k >>> ((2 : Int32) &&& 31)).toInt ∧ (k >>> ((2 : Int32) &&& 31)).toInt < 2) ∧ ix (k >>> ((2 : Int32) &&& 31)) = ix k / 4 := by
  have x := ix_int h.1
  have key : ∀ n : Fin 8, (0 ≤ (Int32.ofNat n.val &&& 3).toInt ∧ (Int32.ofNat n.val &&& 3).toInt < 4) ∧ ix (Int32.ofNat n.val &&& 3) = n.val % 4 ∧ (0 ≤ (Int32.ofNat n.val >>> ((2 : Int32) &&& 31)).toInt ∧ (Int32.ofNat n.val >>> ((2 : Int32) &&& 31)).toInt < 2) ∧ ix (Int32.ofNat n.val >>> ((2 : Int32) &&& 31)) = n.val / 4 := by decide
  have := key ⟨ix k, by omega⟩
  rw [← own_i32 k h.1] at this
  exact this
theorem own_l4 (N : Nat) (sg : Nat → Int32) {x2 x3 x4 : Int32} {x10 : Int64} (s w : St) (B : own_B s) (c4 : gI s 0 18 = 4) (O : own_oo s x2) (C : own_cc s x3) (S : ∀ q f, q < 2 → f < 4 → own_sl s x10 x4 q f) (k : Int32) (hk : 0 ≤ k.toInt ∧ k.toInt < 8) (Q : Int32 → Wd → Prop) (hQ : Q (own_pq s (ix k)) (W1 w)) : lalI PP QQ (some (N, sg)) 4 [.long x10, .int x4, .int x2, .int x3, .int k] (W1 w) Q := by
  have x := ix_int hk.1
  obtain ⟨k3, i3, -, -⟩ := own_k3 hk
  have Sk := S (ix k / 4) (ix k % 4) (by omega) (by omega)
  have en : 4 * (ix k / 4) + ix k % 4 = ix k := by omega
  unfold own_pq at hQ
  apply l4W1_in
  rw [own_byI x10 k hk.1, own_niI x4 k hk.1]
  by_cases r : gI s 6 (16 * (ix k / 4) + ix k % 4) = 0
  · rw [if_pos r] at hQ
    have z := Sk.2.1 r
    rw [en] at z
    exact ⟨fun _ => hQ, fun q => absurd z q⟩
  · rw [if_neg r] at hQ
    have b := own_slb Sk r
    obtain ⟨so, sw, -⟩ := Sk.2.2 r
    have p := Sk.1
    rw [en] at b p
    obtain ⟨b0, br, b64, b16, b3, -⟩ := own_bbx (e := gI s 8 (16 * (ix k / 4) + ix k % 4)) sw
    rw [b, b64, b16, b3]
    unfold own_pk at hQ
    refine ⟨fun q => absurd q b0, fun _ => ⟨fun e => ?_, fun e => ?_⟩⟩
    · have en : gI s 8 (16 * (ix k / 4) + ix k % 4) ≠ 0 := fun w => by rw [if_pos w] at e; exact absurd e (by decide)
      rw [if_neg en] at hQ
      refine ⟨fun g => own_l3 N sg s w B c4 O C _ _ ⟨w, rfl, ?_⟩, fun g => ?_⟩
      · rw [if_pos g] at hQ
        unfold own_rq own_oq
        rw [if_pos k3, i3, if_neg so]
        exact hQ
      · rw [if_neg g, p] at hQ
        exact hQ
    · have en : gI s 8 (16 * (ix k / 4) + ix k % 4) = 0 := Classical.byContradiction fun w => e (by rw [if_neg w])
      rw [if_pos en] at hQ; exact hQ
/-- edgeUpdate, each slot -/
def own_eu (s : St) (old : Int32) (q f : Nat) : Int32 := if own_op s f ≠ 0 ∧ gI s 6 (16 * q + f) ≠ 0 ∧ gI s 8 (16 * q + f) ≠ 0 ∧ gI s 7 (16 * q + f) &&& 16 ≠ 0 then (gI s 9 (16 * q + f) &&& own_ry s f) ||| ((own_ry s f &&& (old ^^^ (-1))) &&& own_wa (gI s 7 (16 * q + f))) else gI s 9 (16 * q + f)
theorem own_j13 (s : St) (B : own_B s) (fd old : Int32) (h : 0 ≤ fd.toInt ∧ fd.toInt < 4) (Q : St → Prop) (hQ : ∀ t, (∀ c j, c ≠ 9 → gI t c j = gI s c j) → (∀ q f, q < 2 → f < 4 → gI t 9 (16 * q + f) = if f = ix fd then own_eu s old q f else gI s 9 (16 * q + f)) → Q t) : calV PP 13 11 [.ref 0, .int fd, .int old] s Q := by
  have xf := ix_int h.1
  apply c13_in
  refine own_i3 s B fd h _ ⟨fun a => hQ s (fun _ _ _ => rfl) (fun q f _ _ => ?_), fun a => own_i4 s fd h _ ?_⟩
  · split
    · rename_i e
      subst e
      unfold own_eu
      rw [if_neg (fun w => w.1 a)]
    · rfl
  refine loop_up (F := fun i => ∀ u, (∀ c j, c ≠ 9 → gI u c j = gI s c j) → (∀ q f, q < 2 → f < 4 → gI u 9 (16 * q + f) = if f = ix fd ∧ q < ix i then own_eu s old q f else gI s 9 (16 * q + f)) → wpcV PP 13 cm13 11 18 [some (.ref 0), some (.int fd), some (.int old), some (.int (own_ry s (ix fd))), some (.int i), none, none] [] u Q) 2 (by decide) (fun i i0 i1 e ih u uc ud => ?_) (fun i hi u uc ud => ?_) 0 (by decide) (by decide) s (fun _ _ _ => rfl) (fun q f _ _ => by rw [if_neg (fun w => absurd w.2 (by show ¬ q < 0; omega))])
  · have xi := ix_int i0
    have xj := ix_int (i := i + 1) (by omega)
    obtain ⟨ib, ei⟩ := own_sx (q := i) (fd := fd) ⟨i0, i1⟩ h
    have nx : ¬ (gI s 6 (16 * ix i + ix fd) ≠ 0 ∧ gI s 8 (16 * ix i + ix fd) ≠ 0 ∧ gI s 7 (16 * ix i + ix fd) &&& 16 ≠ 0) → wpcV PP 13 cm13 11 107 [some (.ref 0), some (.int fd), some (.int old), some (.int (own_ry s (ix fd))), some (.int i), none, none] [] u Q := fun no => c13_107 _ _ _ _ _ _ (ih u uc fun q f hq hf => by
      rw [ud q f hq hf]
      by_cases y : f = ix fd ∧ q = ix i
      · obtain ⟨y1, y2⟩ := y
        subst y1; subst y2
        rw [if_neg (by omega), if_pos ⟨rfl, by omega⟩]
        unfold own_eu
        rw [if_neg (fun w => no w.2)]
      · by_cases y2 : f = ix fd ∧ q < ix i
        · rw [if_pos y2, if_pos ⟨y2.1, by omega⟩]
        · rw [if_neg y2, if_neg (by omega)])
    refine c13_18 _ _ _ _ _ _ ⟨fun _ => c8_in _ _ _ _ ⟨ib, fun z => nx fun y => y.1 ?_, fun z6 => ⟨ib, fun z => nx fun y => y.2.1 ?_, fun z8 => ⟨ib, fun z => nx fun y => y.2.2 ?_, fun z7 => ⟨ib, c5_in _ _ _ ⟨ib, ib, c13_107 _ _ _ _ _ _ (ih _ (fun c j hc => ?_) (fun q f hq hf => ?_))⟩⟩⟩⟩⟩, fun q => absurd (by rw [uc 0 _ (by decide), B.2.1, i32_lt]; exact i1) q⟩
    · rw [ei, uc 6 _ (by decide)] at z; exact z
    · rw [ei, uc 8 _ (by decide)] at z; exact z
    · rw [ei, uc 7 _ (by decide)] at z; exact z
    · rw [gI_sI, if_neg (fun w => hc w.1)]; exact uc c j hc
    · rw [ei, uc 6 _ (by decide)] at z6
      rw [ei, uc 8 _ (by decide)] at z8
      rw [ei, uc 7 _ (by decide)] at z7
      rw [gI_sI, ei]
      by_cases y : f = ix fd ∧ q = ix i
      · obtain ⟨y1, y2⟩ := y
        subst y1; subst y2
        have u9 := ud (ix i) (ix fd) hq hf
        rw [if_neg (by omega)] at u9
        rw [if_pos ⟨rfl, rfl⟩, if_pos ⟨rfl, by omega⟩, uc 7 _ (by decide), u9]
        unfold own_eu
        rw [if_pos ⟨a, z6, z8, z7⟩]
        rfl
      · rw [if_neg (by omega), ud q f hq hf]
        by_cases y2 : f = ix fd ∧ q < ix i
        · rw [if_pos y2, if_pos ⟨y2.1, by omega⟩]
        · rw [if_neg y2, if_neg (by omega)]
  · have xi := ix_int (i := i) (by omega)
    refine c13_18 _ _ _ _ _ _ ⟨fun q => absurd q (by rw [uc 0 _ (by decide), B.2.1, i32_lt, hi]; decide), fun _ => hQ u uc fun q f hq hf => ?_⟩
    rw [ud q f hq hf]
    by_cases y : f = ix fd
    · rw [if_pos ⟨y, by omega⟩, if_pos y]
    · rw [if_neg (fun w => y w.1), if_neg y]
theorem own_eu_cg {s t : St} (old : Int32) {q f : Nat} (hc : ∀ c j, c ≠ 9 → gI t c j = gI s c j) (h9 : gI t 9 (16 * q + f) = gI s 9 (16 * q + f)) : own_eu t old q f = own_eu s old q f := by
  unfold own_eu
  rw [own_op_cg (s := s) (t := t) (fun j => hc 1 j (by decide)) (fun j => hc 2 j (by decide)) f, own_ry_cg (s := s) (t := t) f (hc 0 _ (by decide)) (hc 1 _ (by decide)) (hc 2 _ (by decide)) (hc 5 _ (by decide)), hc 6 _ (by decide), hc 7 _ (by decide), hc 8 _ (by decide), h9]
/-- both ends -/
theorem own_j2 (u : St) (B : own_B u) (p o0 o1 : Int32) (hp : 0 ≤ p.toInt ∧ p.toInt < 2) (Q : St → Prop) (hQ : ∀ t, (∀ c j, c ≠ 9 → gI t c j = gI u c j) → (∀ q f, q < 2 → f < 4 → gI t 9 (16 * q + f) = if f / 2 = ix p then own_eu u (if f % 2 = 0 then o0 else o1) q f else gI u 9 (16 * q + f)) → Q t) : calV PP 13 11 [.ref 0, .int (2 * p), .int o0] u (fun w => calV PP 13 11 [.ref 0, .int (2 * p + 1), .int o1] w Q) := by
  have xp := ix_int hp.1
  have m2 : (2 * p).toInt = 2 * p.toInt := i32_mul (x := 2) (y := p) (by show (-2147483648 : Int) ≤ 2 * p.toInt; omega) (by show 2 * p.toInt < (2147483648 : Int); omega)
  have m3 : (2 * p + 1).toInt = 2 * p.toInt + 1 := by
    have := i32_add (x := 2 * p) (y := 1) (by show (-2147483648 : Int) ≤ (2 * p).toInt + 1; omega) (by show (2 * p).toInt + 1 < (2147483648 : Int); omega)
    rw [this, m2]; rfl
  have x2 := ix_int (i := 2 * p) (by omega)
  have x3 := ix_int (i := 2 * p + 1) (by omega)
  refine own_j13 u B (2 * p) o0 (by omega) _ fun w wc wd => ?_
  refine own_j13 w (own_B_cg B wc) (2 * p + 1) o1 (by omega) _ fun t tc td => hQ t (fun c j hc => by rw [tc c j hc, wc c j hc]) fun q f hq hf => ?_
  rw [td q f hq hf]
  by_cases y : f = ix (2 * p + 1)
  · rw [if_pos y, if_pos (by omega), if_neg (by omega)]
    exact own_eu_cg o1 wc (by rw [wd q f hq hf, if_neg (by omega)])
  · rw [if_neg y, wd q f hq hf]
    by_cases z : f = ix (2 * p)
    · rw [if_pos z, if_pos (by omega), if_pos (by omega)]
    · rw [if_neg z, if_neg (by omega)]

theorem own_kp {k p : Int32} (hk : 0 ≤ k.toInt ∧ k.toInt < 4) (hp : 0 ≤ p.toInt ∧ p.toInt < 2) : (0 ≤ (2 * p + (k &&& 1)).toInt ∧ (2 * p + (k &&& 1)).toInt < 4) ∧ ix (2 * p + (k &&& 1)) = 2 * ix p + ix k % 2 ∧ ((k >>> ((1 : Int32) &&& 31)) * 4) + (2 * p + (k &&& 1)) = Int32.ofNat (4 * (ix k / 2) + (2 * ix p + ix k % 2)) ∧ (k &&& 1 = 0 ↔ ix k % 2 = 0) := by
  have x := ix_int hk.1
  have y := ix_int hp.1
  have key : ∀ k : Fin 4, ∀ p : Fin 2, (0 ≤ (2 * Int32.ofNat p.val + (Int32.ofNat k.val &&& 1)).toInt ∧ (2 * Int32.ofNat p.val + (Int32.ofNat k.val &&& 1)).toInt < 4) ∧ ix (2 * Int32.ofNat p.val + (Int32.ofNat k.val &&& 1)) = 2 * p.val + k.val % 2 ∧ ((Int32.ofNat k.val >>> ((1 : Int32) &&& 31)) * 4) + (2 * Int32.ofNat p.val + (Int32.ofNat k.val &&& 1)) = Int32.ofNat (4 * (k.val / 2) + (2 * p.val + k.val % 2)) ∧ (Int32.ofNat k.val &&& 1 = 0 ↔ k.val % 2 = 0) := by decide
  have := key ⟨ix k, by omega⟩ ⟨ix p, by omega⟩
  rw [← own_i32 k hk.1, ← own_i32 p hp.1] at this
  exact this
theorem own_ry0 (s : St) (f : Nat) : (¬ own_ry s f < 0) ∧ ∀ j, 4 ≤ j → own_bt (own_ry s f) j = false := by
  have m := own_ry_v s f
  generalize own_ry s f = v at m
  simp at m
  have k : ∀ v : Int32, (0 ≤ v.toInt ∧ v.toInt < 16) → ∀ j, 4 ≤ j → own_bt v j = false := fun v hv j hj => by
    have a := Jvm.Kit.i32_mask v 15 (k := 4) (by decide) (by decide)
    have p : ((2 : Int) ^ 4) = 16 := by decide
    have e : v &&& 15 = v := (i32_eq).mpr (by rw [a, p]; omega)
    by_cases l : j < 32
    · have b := own_bt_and v 15 j
      rw [e, own_bt_15 j l] at b
      have : ¬ j < 4 := by omega
      rw [b]; simp [this]
    · exact own_bt_hi _ _ (by omega)
  rcases m with m | m | m | m | m <;> subst m <;> exact ⟨by decide, k _ (by decide)⟩
/-- the law's edge -/
theorem own_l5 (N : Nat) (sg : Nat → Int32) {x2 x3 x4 : Int32} {x10 : Int64} (u w : St) (B : own_B u) (c4 : gI u 0 18 = 4) (O : own_oo u x2) (C : own_cc u x3) (S : ∀ q f, q < 2 → f < 4 → own_sl u x10 x4 q f) (p o0 o1 : Int32) (hp : 0 ≤ p.toInt ∧ p.toInt < 2) (Q : Int32 → Wd → Prop) (hQ : ∀ y4, (∀ q f, q < 2 → f < 4 → own_ni y4 (4 * q + f) = if f / 2 = ix p then own_eu u (if f % 2 = 0 then o0 else o1) q f else gI u 9 (16 * q + f)) → Q y4 (W1 w)) : lalI PP QQ (some (N, sg)) 5 [.long x10, .int x4, .int x2, .int x3, .int p, .int o0, .int o1] (W1 w) Q := by
  have xp := ix_int hp.1
  apply l5W1_in
  refine loop_up (F := fun k => ∀ y4 : Int32, (∀ q f, q < 2 → f < 4 → own_ni y4 (4 * q + f) = if f / 2 = ix p ∧ 2 * q + f % 2 < ix k then own_eu u (if f % 2 = 0 then o0 else o1) q f else gI u 9 (16 * q + f)) → wplI PP QQ (some (N, sg)) 5 lm5 3 [some (.long x10), none, some (.int y4), some (.int x2), some (.int x3), some (.int p), some (.int o0), some (.int o1), some (.int k), none, none, none, none, none, none] [] (W1 w) Q) 4 (by decide) (fun k k0 k1 e ih y4 hy => ?_) (fun k hk y4 hy => ?_) 0 (by decide) (by decide) x4 (fun q f hq hf => by rw [if_neg (fun w => absurd w.2 (by show ¬ _ < 0; omega))]; exact (S q f hq hf).1.symm)
  · have xk := ix_int k0
    have xj := ix_int (i := k + 1) (by omega)
    obtain ⟨e4, ei, eS, eo⟩ := own_kp ⟨k0, k1⟩ hp
    refine l5W1_3 _ _ _ _ _ _ _ _ _ _ _ _ ⟨fun _ => own_l3 N sg u w B c4 O C _ _ ⟨w, rfl, fun m hm => ih m ?_⟩, fun z => absurd (by rw [own_lt4]; exact k1) z⟩
    unfold own_rq own_oq at hm
    rw [if_pos e4, ei, eS] at hm
    have hq : ix k / 2 < 2 := by omega
    have hf : 2 * ix p + ix k % 2 < 4 := by omega
    have Sk := S (ix k / 2) (2 * ix p + ix k % 2) hq hf
    have yk := hy (ix k / 2) (2 * ix p + ix k % 2) hq hf
    rw [if_neg (by omega)] at yk
    have n8 : 4 * (ix k / 2) + (2 * ix p + ix k % 2) < 8 := by omega
    have eb : Int64.toInt32 (Jvm.Free.XT.ushrL x10 (Int32.ofNat (4 * (ix k / 2) + (2 * ix p + ix k % 2)) * 8) &&& 255) = own_by x10 (4 * (ix k / 2) + (2 * ix p + ix k % 2)) := rfl
    have en : Jvm.Free.XT.ushr y4 (Int32.ofNat (4 * (ix k / 2) + (2 * ix p + ix k % 2)) * 4) &&& 15 = own_ni y4 (4 * (ix k / 2) + (2 * ix p + ix k % 2)) := rfl
    rw [eb, en, yk] at hm
    -- the slot itself
    have key : (∀ n, n < 8 → own_ni m n = if n = 4 * (ix k / 2) + (2 * ix p + ix k % 2) then own_eu u (if (2 * ix p + ix k % 2) % 2 = 0 then o0 else o1) (ix k / 2) (2 * ix p + ix k % 2) else own_ni y4 n) := by
      have same : own_eu u (if (2 * ix p + ix k % 2) % 2 = 0 then o0 else o1) (ix k / 2) (2 * ix p + ix k % 2) = gI u 9 (16 * (ix k / 2) + (2 * ix p + ix k % 2)) → m = y4 → ∀ n, n < 8 → own_ni m n = if n = 4 * (ix k / 2) + (2 * ix p + ix k % 2) then own_eu u (if (2 * ix p + ix k % 2) % 2 = 0 then o0 else o1) (ix k / 2) (2 * ix p + ix k % 2) else own_ni y4 n := fun a b n hn => by
        rw [b]
        split
        · rename_i c; rw [c, a, yk]
        · rfl
      by_cases c0 : own_op u (2 * ix p + ix k % 2) = 0
      · refine same (by unfold own_eu; rw [if_neg (fun w => w.1 c0)]) ?_
        rw [hm, if_pos c0, if_pos (by decide)]
      · by_cases c6 : gI u 6 (16 * (ix k / 2) + (2 * ix p + ix k % 2)) = 0
        · refine same (by unfold own_eu; rw [if_neg (fun w => w.2.1 c6)]) ?_
          rw [hm, if_neg c0, if_neg (own_ry0 u _).1, if_pos (Sk.2.1 c6)]
        · have b := own_slb Sk c6
          obtain ⟨-, sw, -⟩ := Sk.2.2 c6
          obtain ⟨b0, br, b64, b16, b3, -⟩ := own_bbx (e := gI u 8 (16 * (ix k / 2) + (2 * ix p + ix k % 2))) sw
          rw [if_neg c0, if_neg (own_ry0 u _).1, b, if_neg b0, b64, b16, b3] at hm
          by_cases c8 : gI u 8 (16 * (ix k / 2) + (2 * ix p + ix k % 2)) = 0
          · refine same (by unfold own_eu; rw [if_neg (fun w => w.2.2.1 c8)]) ?_
            rw [hm, if_neg (by rw [if_pos c8]; decide)]
          · rw [if_pos (by rw [if_neg c8])] at hm
            by_cases c7 : gI u 7 (16 * (ix k / 2) + (2 * ix p + ix k % 2)) &&& 16 = 0
            · refine same (by unfold own_eu; rw [if_neg (fun w => w.2.2.2 c7)]) ?_
              rw [hm, if_pos c7]
            · rw [if_neg c7] at hm
              intro n hn
              have go : ∀ o : Int32, m = (y4 &&& (((15 : Int32) <<< ((Int32.ofNat (4 * (ix k / 2) + (2 * ix p + ix k % 2)) * 4) &&& 31)) ^^^ (-1))) ||| (((gI u 9 (16 * (ix k / 2) + (2 * ix p + ix k % 2)) &&& own_ry u (2 * ix p + ix k % 2)) ||| ((own_ry u (2 * ix p + ix k % 2) &&& (o ^^^ (-1))) &&& own_wa (gI u 7 (16 * (ix k / 2) + (2 * ix p + ix k % 2))))) <<< ((Int32.ofNat (4 * (ix k / 2) + (2 * ix p + ix k % 2)) * 4) &&& 31)) → o = (if (2 * ix p + ix k % 2) % 2 = 0 then o0 else o1) → own_ni m n = if n = 4 * (ix k / 2) + (2 * ix p + ix k % 2) then own_eu u (if (2 * ix p + ix k % 2) % 2 = 0 then o0 else o1) (ix k / 2) (2 * ix p + ix k % 2) else own_ni y4 n := fun o hmo ho => by
                rw [hmo, own_ni_set _ _ n8 hn (fun j hj => by
                  rw [own_bt_orr, own_bt_and, own_bt_and, own_bt_and, (own_ry0 u _).2 j hj]
                  simp)]
                split
                · unfold own_eu
                  rw [if_pos ⟨c0, c6, c8, c7⟩, ho]
                · rfl
              by_cases od : k &&& 1 = 0
              · rw [if_pos od] at hm
                exact go o0 hm (by have := eo.mp od; rw [if_pos (by omega)])
              · rw [if_neg od] at hm
                exact go o1 hm (by have : ¬ ix k % 2 = 0 := fun w => od (eo.mpr w)
                                   rw [if_neg (by omega)])
    intro q f hq' hf'
    rw [key (4 * q + f) (by omega)]
    by_cases y : 4 * q + f = 4 * (ix k / 2) + (2 * ix p + ix k % 2)
    · have y1 : q = ix k / 2 := by omega
      have y2 : f = 2 * ix p + ix k % 2 := by omega
      have c : f / 2 = ix p ∧ 2 * q + f % 2 < ix (k + 1) := ⟨by omega, by omega⟩
      rw [if_pos y, if_pos c, y1, y2]
    · rw [if_neg y, hy q f hq' hf']
      by_cases z : f / 2 = ix p ∧ 2 * q + f % 2 < ix k
      · have c : f / 2 = ix p ∧ 2 * q + f % 2 < ix (k + 1) := ⟨z.1, by omega⟩
        rw [if_pos z, if_pos c]
      · have c : ¬ (f / 2 = ix p ∧ 2 * q + f % 2 < ix (k + 1)) := by omega
        rw [if_neg z, if_neg c]
  · have xk := ix_int (i := k) (by omega)
    refine l5W1_3 _ _ _ _ _ _ _ _ _ _ _ _ ⟨fun z => absurd z (by rw [own_lt4]; omega), fun _ => hQ y4 fun q f hq hf => ?_⟩
    rw [hy q f hq hf]
    by_cases z : f / 2 = ix p
    · have c : f / 2 = ix p ∧ 2 * q + f % 2 < ix k := ⟨z, by omega⟩
      rw [if_pos c, if_pos z]
    · have c : ¬ (f / 2 = ix p ∧ 2 * q + f % 2 < ix k) := fun w => z w.1
      rw [if_neg c, if_neg z]

def own_ct (f : Nat → Bool) : Nat → Nat
  | 0 => 0
  | n + 1 => own_ct f n + (if f n then 1 else 0)
theorem own_ct_le {f : Nat → Bool} : ∀ n, own_ct f n ≤ n
  | 0 => Nat.le_refl _
  | n + 1 => by
    show own_ct f n + _ ≤ _
    have := own_ct_le (f := f) n
    split <;> omega
/-- is an event there -/
def own_ev (s : St) (q f : Nat) : Bool := gI s 6 (16 * q + f) != 0 && own_pk s (16 * q + f) f != 0
/-- readyCount -/
theorem own_i30 (s : St) (B : own_B s) (q : Int32) (hq : 0 ≤ q.toInt ∧ q.toInt < 2) (Q : Int32 → St → Prop) (h : ∀ v : Int32, v.toInt = own_ct (own_ev s (ix q)) 4 → Q v s) : calI PP 30 11 [.ref 0, .int q] s Q := by
  have e4 : (2 : Int32) * gI s 0 17 = 4 := by rw [B.1]; decide
  apply c30_in
  refine own_i6 s B q hq _ ⟨fun w => absurd w (by decide), fun _ => ?_⟩
  rw [e4]
  refine loop_up (F := fun i => ∀ v : Int32, v.toInt = own_ct (own_ev s (ix q)) (ix i) → wpcI PP 30 cm30 11 22 [some (.ref 0), some (.int q), some (.int v), some (.int 4), some (.int i), none] [] s Q) 4 (by decide) (fun i i0 i1 e ih v hv => ?_) (fun i hi v hv => ?_) 0 (by decide) (by decide) 0 rfl
  · have xi := ix_int i0
    have xj := ix_int (i := i + 1) (by omega)
    obtain ⟨ib, ei⟩ := own_sx hq (fd := i) ⟨i0, i1⟩
    have le := own_ct_le (f := own_ev s (ix q)) (ix i)
    have st : own_ct (own_ev s (ix q)) (ix (i + 1)) = own_ct (own_ev s (ix q)) (ix i) + (if own_ev s (ix q) (ix i) then 1 else 0) := by rw [show ix (i + 1) = ix i + 1 by omega]; rfl
    have e1 : (v + 1).toInt = v.toInt + 1 := by rw [i32_add] <;> simp <;> omega
    refine c30_22 _ _ _ _ _ _ ⟨fun _ => c8_in _ _ _ _ ⟨ib, fun z => c30_61 _ _ _ _ _ _ (ih v ?_), fun z => own_i9 s _ i ib ⟨i0, i1⟩ _ fun m em => c30_61 _ _ _ _ _ _ (ih m ?_)⟩, fun w => absurd (by rw [i32_lt]; exact i1) w⟩
    · rw [ei] at z
      rw [st, hv, show own_ev s (ix q) (ix i) = false by unfold own_ev; rw [z]; rfl]; rfl
    · rw [ei] at z em
      by_cases y : own_pk s (16 * ix q + ix i) (ix i) = 0
      · rw [em, if_pos y, st, hv, show own_ev s (ix q) (ix i) = false by unfold own_ev; rw [y]; simp]; rfl
      · rw [em, if_neg y, st, e1, hv, show own_ev s (ix q) (ix i) = true by unfold own_ev; simp [z, y]]; rfl
  · have i4 : ix i = 4 := by have := ix_int (i := i) (by omega); omega
    rw [i4] at hv
    exact c30_22 _ _ _ _ _ _ ⟨fun w => absurd w (by rw [i32_lt, hi]; decide), fun _ => h v hv⟩

/-! the law's check -/
theorem own_lt3 {x : Int32} : x < 3 ↔ x.toInt < 3 := i32_lt
theorem own_lt5 {x : Int32} : x < 5 ↔ x.toInt < 5 := i32_lt
theorem own_lt8 {x : Int32} : x < 8 ↔ x.toInt < 8 := i32_lt
theorem own_lt17 {x : Int32} : x < 17 ↔ x.toInt < 17 := i32_lt
theorem own_b2 (x2 : Int32) {p : Int32} (hp : 0 ≤ p.toInt ∧ p.toInt < 2) : (x2 >>> ((2 * p) &&& 31)) &&& 3 = 0 ↔ own_bt x2 (2 * ix p) = false ∧ own_bt x2 (2 * ix p + 1) = false := by
  have xp := ix_int hp.1
  have m2 : (2 * p).toInt = 2 * p.toInt := i32_mul (x := 2) (y := p) (by show (-2147483648 : Int) ≤ 2 * p.toInt; omega) (by show 2 * p.toInt < (2147483648 : Int); omega)
  have x2' := ix_int (i := 2 * p) (by omega)
  have e : ix (2 * p) = 2 * ix p := by omega
  have k3 : ∀ j : Fin 32, own_bt 3 j.val = decide (j.val < 2) := by decide
  rw [own_bt_zero]
  constructor
  · intro h
    have h0 := h 0 (by decide)
    have h1 := h 1 (by decide)
    rw [own_bt_and, own_bt_sarj _ _ (by omega) _ (by omega), k3 ⟨0, by decide⟩, e] at h0
    rw [own_bt_and, own_bt_sarj _ _ (by omega) _ (by omega), k3 ⟨1, by decide⟩, e] at h1
    simp at h0 h1
    exact ⟨h0, h1⟩
  · intro ⟨h0, h1⟩ j hj
    rw [own_bt_and, k3 ⟨j, hj⟩]
    by_cases l : j < 2
    · rw [own_bt_sarj _ _ (by omega) _ (by omega), e]
      have : j = 0 ∨ j = 1 := by omega
      rcases this with q | q
      · subst q; simp [h0]
      · subst q; simp [h1]
    · simp [l]
/-- pipeBytes -/
theorem own_c26 (s : St) (x2 x3 : Int32) (B : own_B s) (O : own_oo s x2) (C : own_cc s x3) (p m : Int32) (hp : 0 ≤ p.toInt ∧ p.toInt < 3) (hm : m = if p < 2 then (if (x2 >>> ((2 * p) &&& 31)) &&& 3 = 0 then -1 else (x3 >>> ((4 * p) &&& 31)) &&& 15) else -1) (Q : Int32 → St → Prop) (h : Q m s) : calI PP 26 11 [.ref 0, .int p] s Q := by
  apply c26_in
  rw [B.1]
  have xp := ix_int hp.1
  refine ⟨fun z => absurd z (by rw [own_lt0]; omega), fun _ => ⟨fun lt => ?_, fun lt => ?_⟩⟩
  · rw [if_pos lt] at hm
    rw [own_lt2] at lt
    have cn := own_cn C p ⟨hp.1, lt⟩
    rw [Int32.mul_comm p 4] at cn
    rw [cn] at hm
    have b2 := own_b2 x2 (p := p) ⟨hp.1, lt⟩
    have o0 := O (2 * ix p) (by omega)
    have o1 := O (2 * ix p + 1) (by omega)
    have e0 : own_op s (2 * ix p) = gI s 1 (ix p) := by unfold own_op; rw [if_pos (by omega)]; congr 1; omega
    have e1 : own_op s (2 * ix p + 1) = gI s 2 (ix p) := by unfold own_op; rw [if_neg (by omega)]; congr 1; omega
    rw [e0] at o0
    rw [e1] at o1
    have ib : inb 8 p := ⟨hp.1, by show _ < (8 : Int); omega⟩
    refine ⟨ib, fun z1 => ⟨ib, fun z2 => ?_, fun z2 => ⟨ib, ?_⟩⟩, fun z1 => ⟨ib, ?_⟩⟩
    · rw [if_pos (b2.mpr ⟨by rw [z1] at o0; split at o0 <;> simp_all, by rw [z2] at o1; split at o1 <;> simp_all⟩)] at hm
      rw [← hm]; exact h
    · rw [if_neg (fun w => z2 (by rw [o1, (b2.mp w).2]; rfl))] at hm
      rw [← hm]; exact h
    · rw [if_neg (fun w => z1 (by rw [o0, (b2.mp w).1]; rfl))] at hm
      rw [← hm]; exact h
  · rw [if_neg lt] at hm
    rw [← hm]; exact h
theorem own_pk0 {s : St} {x10 : Int64} {x4 : Int32} {q f : Nat} (hq : q < 2) (hf : f < 4) (S : own_sl s x10 x4 q f) : 0 ≤ (own_pk s (16 * q + f) f).toInt := by
  have k : ∀ v : Int32, (∀ j, 4 ≤ j → own_bt v j = false) → 0 ≤ v.toInt := fun v hv => by
    have m := Jvm.Kit.i32_mask v 15 (k := 4) (by decide) (by decide)
    have p : ((2 : Int) ^ 4) = 16 := by decide
    have e : v &&& 15 = v := own_bt_ext fun j hj => by
      rw [own_bt_and, own_bt_15 j hj]
      by_cases l : j < 4
      · simp [l]
      · rw [hv j (by omega)]; rfl
    rw [e, p] at m; omega
  unfold own_pk
  split
  · decide
  · split
    · exact k _ fun j hj => by rw [own_bt_and, (own_ry0 s f).2 j hj]; rfl
    · rw [S.1]
      exact k _ fun j hj => own_ni_hi x4 (by omega) j hj
theorem own_pq_ev {s : St} {x10 : Int64} {x4 : Int32} {q f : Nat} (hq : q < 2) (hf : f < 4) (S : own_sl s x10 x4 q f) : (0 : Int32) < own_pq s (4 * q + f) ↔ own_ev s q f = true := by
  have e1 : (4 * q + f) / 4 = q := by omega
  have e2 : (4 * q + f) % 4 = f := by omega
  have p0 := own_pk0 hq hf S
  unfold own_pq own_ev
  rw [e1, e2, own_gt0]
  by_cases r : gI s 6 (16 * q + f) = 0
  · rw [if_pos r, r]; exact ⟨fun w => absurd w (by decide), fun w => by simp at w⟩
  · rw [if_neg r]
    have nz : own_pk s (16 * q + f) f = 0 ↔ (own_pk s (16 * q + f) f).toInt = 0 := i32_eq
    simp only [bne_iff_ne, Bool.and_eq_true, ne_eq, r, not_false_eq_true, true_and, nz]
    omega
theorem own_niS (x k : Int32) (h0 : 0 ≤ k.toInt) (h1 : k.toInt < 8) : (x >>> ((k * 4) &&& 31)) &&& 15 = own_ni x (ix k) := by
  have xk := ix_int h0
  obtain ⟨a, b, c⟩ := own_ix4 (n := ix k) (by omega)
  rw [← own_i32 k h0] at a b c
  apply own_bt_ext
  intro j hj
  rw [own_ni_bit _ (by omega) j hj, own_bt_and, own_bt_15 j hj]
  by_cases l : j < 4
  · rw [own_bt_sarj _ _ a _ (by omega), c]
  · simp [l]
/-- the last part: the reported events -/
theorem own_l243 (N : Nat) (sg : Nat → Int32) (s : St) (x5 x6 x7 : Int32) (V : own_rs s x5 x6 x7) (R : Int32 → Wd → Prop) (h : R 1 (W1 s)) : wplI PP QQ (some (N, sg)) 6 lm6 243 [some (.ref 1), none, none, none, none, none, some (.int x5), some (.int x6), some (.int x7), none, none, some (.int (-1 : Int32)), none, none] [] (W1 s) R := by
  obtain ⟨e31, r5, hr⟩ := V
  have x5' := ix_int r5.1
  have one : ∀ k : Int32, -1 ≤ k.toInt → (k.toInt < 17 → wplI PP QQ (some (N, sg)) 6 lm6 243 [some (.ref 1), none, none, none, none, none, some (.int x5), some (.int x6), some (.int x7), none, none, some (.int (k + 1)), none, none] [] (W1 s) R) → wplI PP QQ (some (N, sg)) 6 lm6 243 [some (.ref 1), none, none, none, none, none, some (.int x5), some (.int x6), some (.int x7), none, none, some (.int k), none, none] [] (W1 s) R := by
    intro k kl ih
    refine l6r1W1_243 _ _ _ _ _ _ _ _ ⟨fun lt m hm => l6r1W1_276 _ _ _ _ _ _ _ _ _ fun m2 hm2 => l6r1W1_304 _ _ _ _ _ _ _ _ _ _ ?_, fun _ => h⟩
    rw [own_lt17] at lt
    have nx := ih lt
    by_cases k0 : k < 0
    · rw [if_pos k0] at hm hm2
      rw [hm, hm2]
      exact c24_in _ _ _ ⟨fun _ => ⟨fun _ => c25_in _ _ _ ⟨fun _ => ⟨fun _ => nx, fun q => absurd rfl q⟩, fun q => absurd k0 q⟩, fun q => absurd rfl q⟩, fun q => absurd k0 q⟩
    · rw [if_neg k0] at hm hm2
      have k0' := k0
      rw [own_lt0] at k0'
      have xk := ix_int (i := k) (by omega)
      by_cases l : k < x5
      · rw [if_pos l] at hm hm2
        have l' : k < gI s 0 31 := by rw [← e31]; exact l
        rw [i32_lt] at l
        have v := hr (ix k) (by omega)
        rw [own_niS _ _ (by omega) (by omega)] at hm hm2
        rw [hm, hm2]
        have ib : inb 16 k := ⟨by omega, by show _ < (16 : Int); omega⟩
        exact c24_in _ _ _ ⟨fun q => absurd q k0, fun _ => ⟨fun _ => ⟨ib, fun _ => c25_in _ _ _ ⟨fun q => absurd q k0, fun _ => ⟨fun _ => ⟨ib, fun _ => nx, fun q => absurd v.2 q⟩, fun q => absurd l' q⟩⟩, fun q => absurd v.1 q⟩, fun q => absurd l' q⟩⟩
      · rw [if_neg l] at hm hm2
        have l' : ¬ k < gI s 0 31 := by rw [← e31]; exact l
        rw [hm, hm2]
        exact c24_in _ _ _ ⟨fun q => absurd q k0, fun _ => ⟨fun q => absurd q l', fun _ => ⟨fun _ => c25_in _ _ _ ⟨fun q => absurd q k0, fun _ => ⟨fun q => absurd q l', fun _ => ⟨fun _ => nx, fun q => absurd rfl q⟩⟩⟩, fun q => absurd rfl q⟩⟩⟩
  refine one (-1) (by decide) fun _ => ?_
  have z : (-1 : Int32) + 1 = 0 := by decide
  rw [z]
  exact loop_up (F := fun i => wplI PP QQ (some (N, sg)) 6 lm6 243 [some (.ref 1), none, none, none, none, none, some (.int x5), some (.int x6), some (.int x7), none, none, some (.int i), none, none] [] (W1 s) R) 17 (by decide) (fun i i0 i1 e ih => one i (by omega) fun _ => ih) (fun i hi => one i (by omega) fun q => absurd q (by omega)) 0 (by decide) (by decide)
theorem own_i6n (s : St) (B : own_B s) (Q : Int32 → St → Prop) (q : Int32) (hq : ¬ (0 ≤ q.toInt ∧ q.toInt < 2)) (h : Q 0 s) : calI PP 6 11 [.ref 0, .int q] s Q := by
  apply c6_in
  rw [B.2.1]
  exact ⟨fun _ => h, fun a => ⟨fun b => absurd ⟨by rw [own_lt0] at a; omega, by rw [own_lt2] at b; exact b⟩ hq, fun _ => h⟩⟩
/-- the slots -/
theorem own_l102 (N : Nat) (sg : Nat → Int32) {x2 x3 x4 x5 x6 x7 : Int32} {x8 x10 : Int64} (s : St) (I : own_I x2 x3 x4 x5 x6 x7 x8 x10 s) (R : Int32 → Wd → Prop) (h : R 1 (W1 s)) : wplI PP QQ (some (N, sg)) 6 lm6 102 [some (.ref 1), some (.int x2), some (.int x3), some (.long x10), none, some (.int x4), some (.int x5), some (.int x6), some (.int x7), some (.int (0 : Int32)), some (.int (0 : Int32)), some (.int (0 : Int32)), none, none] [] (W1 s) R := by
  obtain ⟨⟨B, c4⟩, O, C, S, D, V⟩ := I
  have l243 := own_l243 N sg s x5 x6 x7 V R h
  refine loop_up (F := fun k => ∀ y9 y10 : Int32, y9.toInt = own_ct (own_ev s 0) (min (ix k) 4) → y10.toInt = own_ct (own_ev s 1) (ix k - 4) → wplI PP QQ (some (N, sg)) 6 lm6 102 [some (.ref 1), some (.int x2), some (.int x3), some (.long x10), none, some (.int x4), some (.int x5), some (.int x6), some (.int x7), some (.int y9), some (.int y10), some (.int k), none, none] [] (W1 s) R) 8 (by decide) (fun k k0 k1 e ih y9 y10 h9 h10 => ?_) (fun k hk y9 y10 h9 h10 => ?_) 0 (by decide) (by decide) 0 0 rfl rfl
  · have xk := ix_int k0
    have xj := ix_int (i := k + 1) (by omega)
    obtain ⟨f3, i3, q2, i2⟩ := own_k3 ⟨k0, k1⟩
    have Sk := S (ix k / 4) (ix k % 4) (by omega) (by omega)
    have en : 4 * (ix k / 4) + ix k % 4 = ix k := by omega
    have ev := own_pq_ev (q := ix k / 4) (f := ix k % 4) (by omega) (by omega) Sk
    rw [en] at ev
    have t9 := own_ct_le (f := own_ev s 0) (min (ix k) 4)
    have t10 := own_ct_le (f := own_ev s 1) (ix k - 4)
    have u9 : (y9 + 1).toInt = y9.toInt + 1 := by rw [i32_add] <;> simp <;> omega
    have u10 : (y10 + 1).toInt = y10.toInt + 1 := by rw [i32_add] <;> simp <;> omega
    have nx : ∀ m593 m594 : Int32, m593 = (if 0 < own_pq s (ix k) then (if k < 4 then y9 + 1 else y9) else y9) → m594 = (if 0 < own_pq s (ix k) then (if k < 4 then y10 else y10 + 1) else y10) → wplI PP QQ (some (N, sg)) 6 lm6 102 [some (.ref 1), some (.int x2), some (.int x3), some (.long x10), none, some (.int x4), some (.int x5), some (.int x6), some (.int x7), some (.int m593), some (.int m594), some (.int (k + 1)), none, none] [] (W1 s) R := by
      intro m1 m2 h1 h2
      refine ih m1 m2 ?_ ?_
      · by_cases l : k < 4
        · rw [own_lt4] at l
          have e0 : min (ix (k + 1)) 4 = min (ix k) 4 + 1 := by omega
          have e1 : min (ix k) 4 = ix k := by omega
          have q0 : ix k / 4 = 0 := by omega
          have f0 : ix k % 4 = ix k := by omega
          rw [e0]
          show _ = ((own_ct (own_ev s 0) (min (ix k) 4) + (if own_ev s 0 (min (ix k) 4) then 1 else 0) : Nat) : Int)
          rw [q0, f0] at ev
          rw [e1] at h9 ⊢
          by_cases c : own_ev s 0 (ix k) = true
          · rw [h1, if_pos (ev.mpr c), if_pos (own_lt4.mpr l), if_pos c, u9, h9]; rfl
          · rw [h1, if_neg (fun w => c (ev.mp w)), if_neg c, h9]; rfl
        · have l' := l
          rw [own_lt4] at l'
          have e0 : min (ix (k + 1)) 4 = min (ix k) 4 := by omega
          rw [e0, h1]
          by_cases c : 0 < own_pq s (ix k)
          · rw [if_pos c, if_neg l]; exact h9
          · rw [if_neg c]; exact h9
      · by_cases l : k < 4
        · have l' := l
          rw [own_lt4] at l'
          have e0 : ix (k + 1) - 4 = ix k - 4 := by omega
          rw [e0, h2]
          by_cases c : 0 < own_pq s (ix k)
          · rw [if_pos c, if_pos l]; exact h10
          · rw [if_neg c]; exact h10
        · have l' := l
          rw [own_lt4] at l'
          have e0 : ix (k + 1) - 4 = (ix k - 4) + 1 := by omega
          have q0 : ix k / 4 = 1 := by omega
          have f0 : ix k % 4 = ix k - 4 := by omega
          rw [e0]
          show _ = ((own_ct (own_ev s 1) (ix k - 4) + (if own_ev s 1 (ix k - 4) then 1 else 0) : Nat) : Int)
          rw [q0, f0] at ev
          by_cases c : own_ev s 1 (ix k - 4) = true
          · rw [h2, if_pos (ev.mpr c), if_neg l, if_pos c, u10, h10]; rfl
          · rw [h2, if_neg (fun w => c (ev.mp w)), if_neg c, h10]; rfl
    have p29 : ∀ Q : Int32 → St → Prop, Q (own_pq s (ix k)) s → calI PP 29 11 [.ref 0, .int (k >>> ((2 : Int32) &&& 31)), .int (k &&& 3)] s Q := fun Q hQ => by
      unfold own_pq at hQ
      refine own_i29 s B _ _ q2 f3 Q (fun a => ?_) fun a b => ?_
      · rw [i2, i3] at a
        have : gI s 6 (16 * (ix k / 4) + ix k % 4) = 0 := by
          rcases a with a | a
          · exact Classical.byContradiction fun w => (Sk.2.2 w).1 a
          · exact a
        rw [if_pos this] at hQ; exact hQ
      · rw [i2, i3] at b ⊢
        rw [if_neg b] at hQ; exact hQ
    refine l6r1W1_102 _ _ _ _ _ _ _ _ _ _ _ _ _ _ ⟨fun _ => own_l4 N sg s s B c4 O C S k ⟨k0, k1⟩ _ ⟨s, rfl, ?_⟩, fun z => absurd (by rw [own_lt8]; exact k1) z⟩
    refine own_i28 s B _ _ q2 f3 _ (fun a m hm => ?_) fun a b m hm => ?_
    · rw [i2, i3] at a
      have z : gI s 6 (16 * (ix k / 4) + ix k % 4) = 0 := by
        rcases a with a | a
        · exact Classical.byContradiction fun w => (Sk.2.2 w).1 a
        · exact a
      have bz := Sk.2.1 z
      rw [en] at bz
      rw [own_byI _ _ k0, if_pos bz] at hm
      rw [hm]
      exact ⟨fun _ => p29 _ ⟨fun _ m1 h1 m2 h2 => nx m1 m2 h1 h2, fun q => absurd rfl q⟩, fun q => absurd rfl q⟩
    · rw [i2, i3] at b ⊢
      have bb := own_slb Sk b
      obtain ⟨-, sw, -⟩ := Sk.2.2 b
      obtain ⟨b0, br, b64, b16, b3, b127, -⟩ := own_bbx (e := gI s 8 (16 * (ix k / 4) + ix k % 4)) sw
      rw [en] at bb
      rw [own_byI _ _ k0, bb, if_neg b0, b127] at hm
      rw [hm]
      exact ⟨fun _ => p29 _ ⟨fun _ m1 h1 m2 h2 => nx m1 m2 h1 h2, fun q => absurd rfl q⟩, fun q => absurd rfl q⟩
  · have xk := ix_int (i := k) (by omega)
    have e8 : ix k = 8 := by omega
    rw [e8] at h9 h10
    refine l6r1W1_102 _ _ _ _ _ _ _ _ _ _ _ _ _ _ ⟨fun z => absurd z (by rw [own_lt8]; omega), fun _ => own_i30 s B 0 (by decide) _ fun v hv => ⟨fun _ => own_i30 s B 1 (by decide) _ fun v2 hv2 => ⟨fun _ => c30_in _ _ _ (own_i6n s B _ 2 (by decide) ⟨fun _ => ⟨fun _ => l243, fun q => absurd rfl q⟩, fun q => absurd rfl q⟩), fun q => absurd ((i32_eq).mpr ?_) q⟩, fun q => absurd ((i32_eq).mpr ?_) q⟩⟩
    · rw [hv2, h10]; rfl
    · rw [hv, h9]; rfl
theorem own_chk (N : Nat) (sg : Nat → Int32) {x2 x3 x4 x5 x6 x7 : Int32} {x8 x10 : Int64} (s : St) (I : own_I x2 x3 x4 x5 x6 x7 x8 x10 s) (R : Int32 → Wd → Prop) (h : R 1 (W1 s)) : lalI PP QQ (some (N, sg)) 6 [.ref 1, .int x2, .int x3, .long x10, .int x4, .int x5, .int x6, .int x7] (W1 s) R := by
  have l102 := own_l102 N sg s I R h
  obtain ⟨⟨B, c4⟩, O, C, S, D, V⟩ := I
  have one : ∀ k : Int32, -1 ≤ k.toInt → (k.toInt < 5 → wplI PP QQ (some (N, sg)) 6 lm6 63 [some (.ref 1), some (.int x2), some (.int x3), some (.long x10), none, some (.int x4), some (.int x5), some (.int x6), some (.int x7), some (.int (k + 1)), none, none, none, none] [] (W1 s) R) → wplI PP QQ (some (N, sg)) 6 lm6 63 [some (.ref 1), some (.int x2), some (.int x3), some (.long x10), none, some (.int x4), some (.int x5), some (.int x6), some (.int x7), some (.int k), none, none, none, none] [] (W1 s) R := fun k kl ih => l6r1W1_63 _ _ _ _ _ _ _ _ _ _ _ _ ⟨fun lt => own_j27 s B k _ (own_l3 N sg s s B c4 O C k _ ⟨s, rfl, fun _ => ih (by rw [own_lt5] at lt; exact lt), fun q => absurd rfl q⟩), fun _ => l102⟩
  have l63 : wplI PP QQ (some (N, sg)) 6 lm6 63 [some (.ref 1), some (.int x2), some (.int x3), some (.long x10), none, some (.int x4), some (.int x5), some (.int x6), some (.int x7), some (.int (-1 : Int32)), none, none, none, none] [] (W1 s) R := by
    refine one (-1) (by decide) fun _ => ?_
    have z : (-1 : Int32) + 1 = 0 := by decide
    rw [z]
    exact loop_up (F := fun i => wplI PP QQ (some (N, sg)) 6 lm6 63 [some (.ref 1), some (.int x2), some (.int x3), some (.long x10), none, some (.int x4), some (.int x5), some (.int x6), some (.int x7), some (.int i), none, none, none, none] [] (W1 s) R) 5 (by decide) (fun i i0 i1 e ih => one i (by omega) fun _ => ih) (fun i hi => one i (by omega) fun q => absurd q (by omega)) 0 (by decide) (by decide)
  apply l6r1W1_in
  refine loop_up (F := fun i => wplI PP QQ (some (N, sg)) 6 lm6 3 [some (.ref 1), some (.int x2), some (.int x3), some (.long x10), none, some (.int x4), some (.int x5), some (.int x6), some (.int x7), some (.int i), none, none, none, none] [] (W1 s) R) 3 (by decide) (fun i i0 i1 e ih => ?_) (fun i hi => l6r1W1_3 _ _ _ _ _ _ _ _ _ _ _ _ ⟨fun z => absurd z (by rw [own_lt3]; omega), fun _ => l63⟩) 0 (by decide) (by decide)
  exact l6r1W1_3 _ _ _ _ _ _ _ _ _ _ _ _ ⟨fun _ m hm => l6r1W1_39 _ _ _ _ _ _ _ _ _ _ _ _ _ (own_c26 s x2 x3 B O C i m ⟨i0, i1⟩ hm _ ⟨fun _ => ih, fun q => absurd rfl q⟩), fun z => absurd (by rw [own_lt3]; exact i1) z⟩

/-! each step, in plain words -/
theorem own_ne {s : St} {c j c' j' : Nat} {v : Int32} (h : ¬ (c' = c ∧ j' = j)) : gI (sI s c j v) c' j' = gI s c' j' := by rw [gI_sI, if_neg h]
theorem own_nc {s : St} {c j c' j' : Nat} {v : Int32} (h : c' ≠ c) : gI (sI s c j v) c' j' = gI s c' j' := by rw [gI_sI, if_neg (fun w => h w.1)]
theorem own_eq {s : St} {c j : Nat} {v : Int32} : gI (sI s c j v) c j = v := by rw [gI_sI, if_pos ⟨rfl, rfl⟩]
theorem own_B_c2 {s t : St} (B : own_B s) (h : ∀ c j, c ≤ 2 → gI t c j = gI s c j) : own_B t := by
  unfold own_B
  simp only [h 0 _ (show (0 : Nat) ≤ 2 by decide), h 1 _ (show (1 : Nat) ≤ 2 by decide), h 2 _ (show (2 : Nat) ≤ 2 by decide)]
  exact B
theorem own_sl_cg {s t : St} {x10 : Int64} {x4 : Int32} {q f : Nat} (S : own_sl s x10 x4 q f) (ho : own_op t f = own_op s f) (h : ∀ c, 6 ≤ c → c ≤ 9 → gI t c (16 * q + f) = gI s c (16 * q + f)) : own_sl t x10 x4 q f := by
  unfold own_sl
  rw [ho, h 6 (by decide) (by decide), h 7 (by decide) (by decide), h 8 (by decide) (by decide), h 9 (by decide) (by decide)]
  exact S
theorem own_rs_cg {s t : St} {x5 x6 x7 : Int32} (V : own_rs s x5 x6 x7) (h0 : gI t 0 31 = gI s 0 31) (h : ∀ c j, c = 10 ∨ c = 11 → gI t c j = gI s c j) : own_rs t x5 x6 x7 := by
  unfold own_rs
  rw [h0]
  refine ⟨V.1, V.2.1, fun j hj => ?_⟩
  rw [h 10 j (Or.inl rfl), h 11 j (Or.inr rfl)]
  exact V.2.2 j hj
theorem own_dt_cg {s t : St} {x8 : Int64} {p : Nat} (D : own_dt s x8 p) (h4 : gI t 4 p = gI s 4 p) (h5 : gI t 5 p = gI s 5 p) (h3 : ∀ j, j < 16 → gI t 3 (16 * p + j) = gI s 3 (16 * p + j)) : own_dt t x8 p := by
  unfold own_dt
  rw [h4, h5]
  refine ⟨D.1, fun k hk => ?_⟩
  rw [D.2 k hk, h3 _ (Nat.mod_lt _ (by decide))]
theorem own_I_9 {x2 x3 x4 x5 x6 x7 y4 : Int32} {x8 x10 : Int64} {u t : St} (I : own_I x2 x3 x4 x5 x6 x7 x8 x10 u) (hc : ∀ c j, c ≠ 9 → gI t c j = gI u c j) (h9 : ∀ q f, q < 2 → f < 4 → gI t 9 (16 * q + f) = own_ni y4 (4 * q + f)) : own_I x2 x3 y4 x5 x6 x7 x8 x10 t := by
  obtain ⟨⟨B, c4⟩, O, C, S, D, V⟩ := I
  have op : ∀ f, own_op t f = own_op u f := own_op_cg (fun j => hc 1 j (by decide)) (fun j => hc 2 j (by decide))
  refine ⟨⟨own_B_cg B hc, by rw [hc 0 _ (by decide)]; exact c4⟩, fun f hf => by rw [op]; exact O f hf, ?_, fun q f hq hf => ?_, fun p hp => own_dt_cg (D p hp) (hc 4 _ (by decide)) (hc 5 _ (by decide)) (fun j _ => hc 3 _ (by decide)), own_rs_cg V (hc 0 _ (by decide)) (fun c j h => hc c j (by omega))⟩
  · unfold own_cc
    rw [hc 5 _ (by decide), hc 5 _ (by decide)]; exact C
  · have Sf := S q f hq hf
    unfold own_sl at Sf ⊢
    rw [op, hc 6 _ (by decide), hc 7 _ (by decide), hc 8 _ (by decide)]
    exact ⟨h9 q f hq hf, Sf.2⟩
theorem own_1s {p : Int32} (hp : 0 ≤ p.toInt ∧ p.toInt < 2) : ((1 : Int32) <<< ((p * 4) &&& 31)).toInt = 1 + 15 * p.toInt := by
  rcases own_p01 hp with q | q <;> subst q <;> decide
theorem own_I_w {x2 x3 x4 x5 x6 x7 : Int32} {x8 x10 : Int64} {s : St} (I : own_I x2 x3 x4 x5 x6 x7 x8 x10 s) (p v : Int32) (hp : 0 ≤ p.toInt ∧ p.toInt < 2) (lt : (gI s 5 (ix p)).toInt < 4) (hv : 0 ≤ v.toInt ∧ v.toInt < 256) (qq : Int32) (eq : qq = p * 32 + gI s 5 (ix p) * 8) : own_I x2 (x3 + (1 <<< ((p * 4) &&& 31))) x4 x5 x6 x7 (x8 ||| ((Int32.toInt64 v) <<< (qq.toInt64 &&& 63))) x10 (sI (sI s 3 (16 * ix p + (ix (gI s 4 (ix p)) + ix (gI s 5 (ix p))) % 16) v) 5 (ix p) (gI s 5 (ix p) + 1)) := by
  obtain ⟨⟨B, c4⟩, O, C, S, D, V⟩ := I
  have xp := ix_int hp.1
  have cp : 0 ≤ (gI s 5 (ix p)).toInt := by
    have : ix p = 0 ∨ ix p = 1 := by omega
    rcases this with q | q <;> rw [q]
    · exact C.1.1
    · exact C.2.1.1
  have xc := ix_int cp
  have u1 : (gI s 5 (ix p) + 1).toInt = (gI s 5 (ix p)).toInt + 1 := by rw [i32_add] <;> simp <;> omega
  have xu := ix_int (i := gI s 5 (ix p) + 1) (by omega)
  have e32 : (p * 32).toInt = p.toInt * 32 := by rw [i32_mul] <;> simp <;> omega
  have e8 : (gI s 5 (ix p) * 8).toInt = (gI s 5 (ix p)).toInt * 8 := by rw [i32_mul] <;> simp <;> omega
  have eqi : qq.toInt = 8 * ((4 * ix p + ix (gI s 5 (ix p)) : Nat) : Int) := by
    rw [eq, i32_add (by omega) (by omega), e32, e8]; omega
  generalize hu : sI (sI s 3 (16 * ix p + (ix (gI s 4 (ix p)) + ix (gI s 5 (ix p))) % 16) v) 5 (ix p) (gI s 5 (ix p) + 1) = u
  have uc : ∀ c j, c ≠ 3 → c ≠ 5 → gI u c j = gI s c j := fun c j a b => by rw [← hu, own_nc b, own_nc a]
  have u5 : gI u 5 (ix p) = gI s 5 (ix p) + 1 := by rw [← hu, own_eq]
  have u5n : ∀ j, j ≠ ix p → gI u 5 j = gI s 5 j := fun j hj => by rw [← hu, own_ne (fun w => hj w.2), own_nc (by decide)]
  have u3 : ∀ j, gI u 3 j = if j = 16 * ix p + (ix (gI s 4 (ix p)) + ix (gI s 5 (ix p))) % 16 then v else gI s 3 j := fun j => by
    rw [← hu, own_nc (by decide), gI_sI]
    by_cases w : j = 16 * ix p + (ix (gI s 4 (ix p)) + ix (gI s 5 (ix p))) % 16
    · rw [if_pos ⟨rfl, w⟩, if_pos w]
    · rw [if_neg (fun q => w q.2), if_neg w]
  have op : ∀ f, own_op u f = own_op s f := own_op_cg (fun j => uc 1 j (by decide) (by decide)) (fun j => uc 2 j (by decide) (by decide))
  refine ⟨⟨own_B_c2 B (fun c j h => uc c j (by omega) (by omega)), by rw [uc 0 _ (by decide) (by decide)]; exact c4⟩, fun f hf => by rw [op]; exact O f hf, ?_, fun q f hq hf => own_sl_cg (S q f hq hf) (op f) (fun c a b => uc c _ (by omega) (by omega)), fun p' hp' => ?_, own_rs_cg V (uc 0 _ (by decide) (by decide)) (fun c j h => uc c j (by omega) (by omega))⟩
  · have e1 := own_1s hp
    have e2 : (x3 + (1 <<< ((p * 4) &&& 31))).toInt = x3.toInt + (1 + 15 * p.toInt) := by
      obtain ⟨a, b, c⟩ := C
      rw [i32_add (by rw [e1]; omega) (by rw [e1]; omega), e1]
    obtain ⟨a, b, c⟩ := C
    unfold own_cc
    rw [e2]
    have : ix p = 0 ∨ ix p = 1 := by omega
    rcases this with q | q
    · rw [q] at u5 u5n lt u1
      rw [u5, u5n 1 (by decide), u1]
      exact ⟨by omega, by omega, by omega⟩
    · rw [q] at u5 u5n lt u1
      rw [u5, u5n 0 (by decide), u1]
      exact ⟨by omega, by omega, by omega⟩
  · have Dp := D p' hp'
    have h4 : gI u 4 p' = gI s 4 p' := uc 4 _ (by decide) (by decide)
    unfold own_dt at Dp ⊢
    rw [h4]
    refine ⟨Dp.1, fun k hk => ?_⟩
    rw [own_by_or x8 _ qq (k := 4 * ix p + ix (gI s 5 (ix p))) (by omega) (by omega) (by omega) eqi v (own_bl_i64 v hv.1) (own_vhi hv), Dp.2 k hk]
    by_cases e : p' = ix p
    · subst e
      rw [u5]
      by_cases ek : k = ix (gI s 5 (ix p))
      · subst ek
        rw [if_pos rfl, if_neg (by omega), own_or00, if_pos (by omega), u3, if_pos rfl]
      · rw [if_neg (by omega)]
        by_cases l : k < ix (gI s 5 (ix p))
        · rw [if_pos l, if_pos (by omega), u3, if_neg (by omega)]
        · rw [if_neg l, if_neg (by omega)]
    · rw [if_neg (by omega), u5n p' e]
      by_cases l : k < ix (gI s 5 p')
      · rw [if_pos l, if_pos l, u3, if_neg (by omega)]
      · rw [if_neg l, if_neg l]
theorem own_I_r {x2 x3 x4 x5 x6 x7 : Int32} {x8 x10 : Int64} {s : St} (I : own_I x2 x3 x4 x5 x6 x7 x8 x10 s) (p : Int32) (hp : 0 ≤ p.toInt ∧ p.toInt < 2) (nz : (gI s 5 (ix p)).toInt ≠ 0) : own_I x2 (x3 - (1 <<< ((p * 4) &&& 31))) x4 x5 x6 x7 ((x8 &&& (((4294967295 : Int64) <<< ((p * 32).toInt64 &&& 63)) ^^^ (-1))) ||| ((Jvm.Free.XT.ushrL (Jvm.Free.XT.ushrL x8 (p * 32) &&& 4294967295) 8) <<< ((p * 32).toInt64 &&& 63))) x10 (sI (sI s 4 (ix p) ((gI s 4 (ix p) + 1) &&& 15)) 5 (ix p) (gI s 5 (ix p) - 1)) ∧ Int64.toInt32 ((Jvm.Free.XT.ushrL x8 (p * 32) &&& 4294967295) &&& 255) = gI s 3 (16 * ix p + ix (gI s 4 (ix p)) % 16) := by
  obtain ⟨⟨B, c4⟩, O, C, S, D, V⟩ := I
  have xp := ix_int hp.1
  have cp : 0 ≤ (gI s 5 (ix p)).toInt ∧ (gI s 5 (ix p)).toInt ≤ 4 := by
    have : ix p = 0 ∨ ix p = 1 := by omega
    rcases this with q | q <;> rw [q]
    · exact C.1
    · exact C.2.1
  have xc := ix_int cp.1
  have u1 : (gI s 5 (ix p) - 1).toInt = (gI s 5 (ix p)).toInt - 1 := by rw [i32_sub] <;> simp <;> omega
  have xu := ix_int (i := gI s 5 (ix p) - 1) (by omega)
  have e32 : (p * 32).toInt = p.toInt * 32 := by rw [i32_mul] <;> simp <;> omega
  have hd := (D (ix p) (by omega)).1
  have xh := ix_int hd.1
  have h1 : ((gI s 4 (ix p) + 1) &&& 15).toInt = ((gI s 4 (ix p)).toInt + 1) % 16 := by
    have m := Jvm.Kit.i32_mask (gI s 4 (ix p) + 1) 15 (k := 4) (by decide) (by decide)
    have pw : ((2 : Int) ^ 4) = 16 := by decide
    have a : (gI s 4 (ix p) + 1).toInt = (gI s 4 (ix p)).toInt + 1 := by rw [i32_add] <;> simp <;> omega
    rw [m, pw, a]
  have xh1 := ix_int (i := (gI s 4 (ix p) + 1) &&& 15) (by omega)
  have q32 : (p * 32).toInt = 32 * ((ix p : Nat) : Int) := by omega
  constructor
  · generalize hu : sI (sI s 4 (ix p) ((gI s 4 (ix p) + 1) &&& 15)) 5 (ix p) (gI s 5 (ix p) - 1) = u
    have uc : ∀ c j, c ≠ 4 → c ≠ 5 → gI u c j = gI s c j := fun c j a b => by rw [← hu, own_nc b, own_nc a]
    have u5 : gI u 5 (ix p) = gI s 5 (ix p) - 1 := by rw [← hu, own_eq]
    have u5n : ∀ j, j ≠ ix p → gI u 5 j = gI s 5 j := fun j hj => by rw [← hu, own_ne (fun w => hj w.2), own_nc (by decide)]
    have u4 : gI u 4 (ix p) = (gI s 4 (ix p) + 1) &&& 15 := by rw [← hu, own_nc (by decide), own_eq]
    have u4n : ∀ j, j ≠ ix p → gI u 4 j = gI s 4 j := fun j hj => by rw [← hu, own_nc (by decide), own_ne (fun w => hj w.2)]
    have op : ∀ f, own_op u f = own_op s f := own_op_cg (fun j => uc 1 j (by decide) (by decide)) (fun j => uc 2 j (by decide) (by decide))
    refine ⟨⟨own_B_c2 B (fun c j h => uc c j (by omega) (by omega)), by rw [uc 0 _ (by decide) (by decide)]; exact c4⟩, fun f hf => by rw [op]; exact O f hf, ?_, fun q f hq hf => own_sl_cg (S q f hq hf) (op f) (fun c a b => uc c _ (by omega) (by omega)), fun p' hp' => ?_, own_rs_cg V (uc 0 _ (by decide) (by decide)) (fun c j h => uc c j (by omega) (by omega))⟩
    · have e1 := own_1s hp
      obtain ⟨a, b, c⟩ := C
      have e2 : (x3 - (1 <<< ((p * 4) &&& 31))).toInt = x3.toInt - (1 + 15 * p.toInt) := by
        rw [i32_sub (by rw [e1]; omega) (by rw [e1]; omega), e1]
      unfold own_cc
      rw [e2]
      have : ix p = 0 ∨ ix p = 1 := by omega
      rcases this with q | q
      · rw [q] at u5 u5n nz u1
        rw [u5, u5n 1 (by decide), u1]
        exact ⟨by omega, by omega, by omega⟩
      · rw [q] at u5 u5n nz u1
        rw [u5, u5n 0 (by decide), u1]
        exact ⟨by omega, by omega, by omega⟩
    · have Dp := D p' hp'
      unfold own_dt at Dp ⊢
      by_cases e : p' = ix p
      · subst e
        rw [u4, u5]
        refine ⟨by omega, fun k hk => ?_⟩
        rw [own_by_sh x8 (p * 32) (p := ix p) (by omega) (by omega) (by omega) q32, if_pos (by omega)]
        by_cases k3 : k = 3
        · rw [if_pos (by omega), if_neg (by omega)]
        · rw [if_neg (by omega)]
          have z : 4 * ix p + k + 1 = 4 * ix p + (k + 1) := by omega
          rw [z, Dp.2 (k + 1) (by omega), uc 3 _ (by decide) (by decide)]
          by_cases l : k + 1 < ix (gI s 5 (ix p))
          · rw [if_pos l, if_pos (by omega)]
            congr 1
            omega
          · rw [if_neg l, if_neg (by omega)]
      · rw [u4n p' e, u5n p' e]
        refine ⟨Dp.1, fun k hk => ?_⟩
        rw [own_by_sh x8 (p * 32) (p := ix p) (by omega) (by omega) (by omega) q32, if_neg (by omega), Dp.2 k hk, uc 3 _ (by decide) (by decide)]
  · rw [own_by_0 x8 (p * 32) (p := ix p) (by omega) (by omega) q32]
    have := (D (ix p) (by omega)).2 0 (by decide)
    rw [if_pos (by omega)] at this
    exact this

def own_H (x2 x3 x4 : Int32) (x8 x10 : Int64) (s : St) : Prop := (own_B s ∧ gI s 0 18 = 4) ∧ own_oo s x2 ∧ own_cc s x3 ∧ (∀ q f, q < 2 → f < 4 → own_sl s x10 x4 q f) ∧ (∀ p, p < 2 → own_dt s x8 p)
theorem own_HI {x2 x3 x4 x5 x6 x7 : Int32} {x8 x10 : Int64} {s : St} (H : own_H x2 x3 x4 x8 x10 s) (V : own_rs s x5 x6 x7) : own_I x2 x3 x4 x5 x6 x7 x8 x10 s := ⟨H.1, H.2.1, H.2.2.1, H.2.2.2.1, H.2.2.2.2, V⟩
theorem own_IH {x2 x3 x4 x5 x6 x7 : Int32} {x8 x10 : Int64} {s : St} (I : own_I x2 x3 x4 x5 x6 x7 x8 x10 s) : own_H x2 x3 x4 x8 x10 s := ⟨I.1, I.2.1, I.2.2.1, I.2.2.2.1, I.2.2.2.2.1⟩
/-- one slot changes -/
theorem own_H_slot {x2 x3 x4 y4 : Int32} {x8 x10 y10 : Int64} {s t : St} (H : own_H x2 x3 x4 x8 x10 s) {q f : Nat} (hq : q < 2) (hf : f < 4) (fr : ∀ c j, ¬ ((6 ≤ c ∧ c ≤ 9) ∧ j = 16 * q + f) → c ≠ 10 → c ≠ 11 → gI t c j = gI s c j) (hn : ∀ n, n < 8 → n ≠ 4 * q + f → own_ni y4 n = own_ni x4 n ∧ own_by y10 n = own_by x10 n) (hs : own_sl t y10 y4 q f) : own_H x2 x3 y4 x8 y10 t := by
  obtain ⟨⟨B, c4⟩, O, C, S, D⟩ := H
  have lo : ∀ c j, c ≤ 5 → gI t c j = gI s c j := fun c j h => fr c j (by omega) (by omega) (by omega)
  have op : ∀ f, own_op t f = own_op s f := own_op_cg (fun j => lo 1 j (by decide)) (fun j => lo 2 j (by decide))
  refine ⟨⟨own_B_c2 B (fun c j h => lo c j (by omega)), by rw [lo 0 _ (by decide)]; exact c4⟩, fun f hf => by rw [op]; exact O f hf, ?_, fun q' f' hq' hf' => ?_, fun p hp => own_dt_cg (D p hp) (lo 4 _ (by decide)) (lo 5 _ (by decide)) (fun j _ => lo 3 _ (by decide))⟩
  · unfold own_cc
    rw [lo 5 _ (by decide), lo 5 _ (by decide)]; exact C
  · by_cases e : q' = q ∧ f' = f
    · obtain ⟨e1, e2⟩ := e
      subst e1; subst e2
      exact hs
    · have n := hn (4 * q' + f') (by omega) (by omega)
      have Sf := S q' f' hq' hf'
      unfold own_sl at Sf ⊢
      rw [op, n.1, n.2, fr 6 _ (by omega) (by decide) (by decide), fr 7 _ (by omega) (by decide) (by decide), fr 8 _ (by omega) (by decide) (by decide), fr 9 _ (by omega) (by decide) (by decide)]
      exact Sf
/-- close -/
theorem own_f4 {fd : Int32} (h : 0 ≤ fd.toInt ∧ fd.toInt < 4) : fd = Int32.ofNat (ix fd) ∧ fd + 4 = Int32.ofNat (ix fd + 4) := by
  have x := ix_int h.1
  have k : ∀ n : Fin 4, Int32.ofNat n.val + 4 = Int32.ofNat (n.val + 4) := by decide
  have := k ⟨ix fd, by omega⟩
  simp only at this
  rw [← own_i32 fd h.1] at this
  exact ⟨own_i32 fd h.1, this⟩
theorem own_as32 (a b c : Int32) : a &&& (b &&& c) = (a &&& b) &&& c := by
  apply own_bt_ext
  intro j _
  rw [own_bt_and, own_bt_and, own_bt_and, own_bt_and, Bool.and_assoc]
theorem own_as64 (a b c : Int64) : a &&& (b &&& c) = (a &&& b) &&& c := by
  apply own_bl_ext
  intro j _
  rw [own_bl_and, own_bl_and, own_bl_and, own_bl_and, Bool.and_assoc]
theorem own_I_c {x2 x3 x4 x5 x6 x7 : Int32} {x8 x10 : Int64} {s u : St} (I : own_I x2 x3 x4 x5 x6 x7 x8 x10 s) (fd : Int32) (h : 0 ≤ fd.toInt ∧ fd.toInt < 4) (fr : ∀ c j, c ≠ 1 → c ≠ 2 → ¬ (6 ≤ c ∧ c ≤ 9) → gI u c j = gI s c j) (B' : own_B u) (op0 : own_op u (ix fd) = 0) (opn : ∀ f, f < 4 → f ≠ ix fd → own_op u f = own_op s f) (sn : ∀ c q f, q < 2 → f < 4 → f ≠ ix fd → 6 ≤ c → c ≤ 9 → gI u c (16 * q + f) = gI s c (16 * q + f)) (s0 : ∀ q, q < 2 → gI u 6 (16 * q + ix fd) = 0 ∧ gI u 9 (16 * q + ix fd) = 0) : own_I (x2 &&& (((1 : Int32) <<< (fd &&& 31)) ^^^ (-1))) x3 (x4 &&& ((((15 : Int32) <<< ((fd * 4) &&& 31)) ^^^ (-1)) &&& (((15 : Int32) <<< (((fd + 4) * 4) &&& 31)) ^^^ (-1)))) x5 x6 x7 x8 (x10 &&& ((((255 : Int64) <<< ((fd * 8).toInt64 &&& 63)) ^^^ (-1)) &&& (((255 : Int64) <<< (((fd + 4) * 8).toInt64 &&& 63)) ^^^ (-1)))) u := by
  obtain ⟨⟨B, c4⟩, O, C, S, D, V⟩ := I
  have xf := ix_int h.1
  obtain ⟨f0, f4⟩ := own_f4 h
  have n4 : ∀ n, n < 8 → own_ni (x4 &&& ((((15 : Int32) <<< ((fd * 4) &&& 31)) ^^^ (-1)) &&& (((15 : Int32) <<< (((fd + 4) * 4) &&& 31)) ^^^ (-1)))) n = if n % 4 = ix fd then 0 else own_ni x4 n := fun n hn => by
    rw [own_as32, f4, own_ni_clr _ (by omega) hn]
    by_cases e : n = ix fd + 4
    · rw [if_pos e, if_pos (by omega)]
    · rw [if_neg e]
      have w := own_ni_clr x4 (k := ix fd) (by omega) hn
      rw [← f0] at w
      rw [w]
      by_cases e2 : n = ix fd
      · rw [if_pos e2, if_pos (by omega)]
      · rw [if_neg e2, if_neg (by omega)]
  have b8 : ∀ n, n < 8 → own_by (x10 &&& ((((255 : Int64) <<< ((fd * 8).toInt64 &&& 63)) ^^^ (-1)) &&& (((255 : Int64) <<< (((fd + 4) * 8).toInt64 &&& 63)) ^^^ (-1)))) n = if n % 4 = ix fd then 0 else own_by x10 n := fun n hn => by
    rw [own_as64, f4, own_by_clr _ (by omega) hn]
    by_cases e : n = ix fd + 4
    · rw [if_pos e, if_pos (by omega)]
    · rw [if_neg e]
      have w := own_by_clr x10 (k := ix fd) (by omega) hn
      rw [← f0] at w
      rw [w]
      by_cases e2 : n = ix fd
      · rw [if_pos e2, if_pos (by omega)]
      · rw [if_neg e2, if_neg (by omega)]
  refine ⟨⟨B', by rw [fr 0 _ (by decide) (by decide) (by decide)]; exact c4⟩, fun f hf => ?_, ?_, fun q f hq hf => ?_, fun p hp => own_dt_cg (D p hp) (fr 4 _ (by decide) (by decide) (by decide)) (fr 5 _ (by decide) (by decide) (by decide)) (fun j _ => fr 3 _ (by decide) (by decide) (by decide)), own_rs_cg V (fr 0 _ (by decide) (by decide) (by decide)) (fun c j h => fr c j (by omega) (by omega) (by omega))⟩
  · rw [own_bt_clr _ _ h.1 (by omega) _ (by omega)]
    by_cases e : f = ix fd
    · rw [e, op0]; simp
    · rw [opn f hf e, O f hf]; simp [e]
  · unfold own_cc
    rw [fr 5 _ (by decide) (by decide) (by decide), fr 5 _ (by decide) (by decide) (by decide)]; exact C
  · unfold own_sl
    rw [n4 _ (by omega), b8 _ (by omega)]
    by_cases e : f = ix fd
    · have z := s0 q hq
      rw [if_pos (by omega), if_pos (by omega), e, z.1, z.2]
      exact ⟨rfl, fun _ => rfl, fun w => absurd rfl w⟩
    · rw [if_neg (by omega), if_neg (by omega), sn 6 q f hq hf e (by decide) (by decide), sn 7 q f hq hf e (by decide) (by decide), sn 8 q f hq hf e (by decide) (by decide), sn 9 q f hq hf e (by decide) (by decide), opn f hf e]
      exact S q f hq hf
/-- createPipe -/
theorem own_cl0 : ∀ a : Fin 5, ∀ b : Fin 5, (Int32.ofNat (a.val + 16 * b.val) &&& (((15 : Int32) <<< ((4 * (0 : Int32)) &&& 31)) ^^^ (-1))).toInt = 16 * b.val ∧ (Int32.ofNat (a.val + 16 * b.val) &&& (((15 : Int32) <<< ((4 * (1 : Int32)) &&& 31)) ^^^ (-1))).toInt = a.val := by decide +kernel
theorem own_3s {m : Int32} (hm : 0 ≤ m.toInt ∧ m.toInt < 2) (j : Nat) (hj : j < 4) : own_bt ((3 : Int32) <<< ((2 * m) &&& 31)) j = decide (j / 2 = ix m) := by
  have k : ∀ j : Fin 4, own_bt ((3 : Int32) <<< ((2 * (0 : Int32)) &&& 31)) j.val = decide (j.val / 2 = 0) ∧ own_bt ((3 : Int32) <<< ((2 * (1 : Int32)) &&& 31)) j.val = decide (j.val / 2 = 1) := by decide
  have := k ⟨j, hj⟩
  rcases own_p01 hm with q | q <;> subst q
  · exact this.1
  · exact this.2
theorem own_I_n {x2 x3 x4 x5 x6 x7 : Int32} {x8 x10 : Int64} {s : St} (I : own_I x2 x3 x4 x5 x6 x7 x8 x10 s) (m : Int32) (hm : 0 ≤ m.toInt ∧ m.toInt < 2) (z1 : gI s 1 (ix m) = 0) (z2 : gI s 2 (ix m) = 0) : own_I (x2 ||| ((3 : Int32) <<< ((2 * m) &&& 31))) (x3 &&& (((15 : Int32) <<< ((4 * m) &&& 31)) ^^^ (-1))) x4 x5 x6 x7 (x8 &&& (((4294967295 : Int64) <<< ((32 * m).toInt64 &&& 63)) ^^^ (-1))) x10 (sI (sI (sI (sI s 1 (ix m) 1) 2 (ix m) 1) 4 (ix m) 0) 5 (ix m) 0) := by
  obtain ⟨⟨B, c4⟩, O, C, S, D, V⟩ := I
  have xm := ix_int hm.1
  generalize hu : sI (sI (sI (sI s 1 (ix m) 1) 2 (ix m) 1) 4 (ix m) 0) 5 (ix m) 0 = u
  have uc : ∀ c j, c ≠ 1 → c ≠ 2 → c ≠ 4 → c ≠ 5 → gI u c j = gI s c j := fun c j a b d e => by rw [← hu, own_nc e, own_nc d, own_nc b, own_nc a]
  have u1 : ∀ j, gI u 1 j = if j = ix m then 1 else gI s 1 j := fun j => by subst hu; simp [gI_sI]
  have u2 : ∀ j, gI u 2 j = if j = ix m then 1 else gI s 2 j := fun j => by subst hu; simp [gI_sI]
  have u4 : ∀ j, gI u 4 j = if j = ix m then 0 else gI s 4 j := fun j => by subst hu; simp [gI_sI]
  have u5 : ∀ j, gI u 5 j = if j = ix m then 0 else gI s 5 j := fun j => by subst hu; simp [gI_sI]
  clear hu
  have e32 : (32 * m).toInt = 32 * ((ix m : Nat) : Int) := by
    have : (32 * m).toInt = 32 * m.toInt := i32_mul (x := 32) (y := m) (by show (-2147483648 : Int) ≤ 32 * m.toInt; omega) (by show 32 * m.toInt < (2147483648 : Int); omega)
    omega
  have opm : ∀ f, f / 2 = ix m → own_op u f = 1 := fun f hf => by unfold own_op; rw [u1, u2, if_pos hf, if_pos hf]; split <;> rfl
  have opn : ∀ f, f / 2 ≠ ix m → own_op u f = own_op s f := fun f hf => by unfold own_op; rw [u1, u2, if_neg hf, if_neg hf]
  have op0 : ∀ f, f / 2 = ix m → own_op s f = 0 := fun f hf => by unfold own_op; rw [hf, z1, z2]; split <;> rfl
  refine ⟨⟨⟨by rw [uc 0 _ (by decide) (by decide) (by decide) (by decide)]; exact B.1, by rw [uc 0 _ (by decide) (by decide) (by decide) (by decide)]; exact B.2.1, by rw [uc 0 _ (by decide) (by decide) (by decide) (by decide)]; exact B.2.2.1, fun p hp => ?_⟩, by rw [uc 0 _ (by decide) (by decide) (by decide) (by decide)]; exact c4⟩, fun f hf => ?_, ?_, fun q f hq hf => ?_, fun p hp => ?_, own_rs_cg V (uc 0 _ (by decide) (by decide) (by decide) (by decide)) (fun c j h => uc c j (by omega) (by omega) (by omega) (by omega))⟩
  · rw [u1, u2]
    by_cases y : p = ix m
    · rw [if_pos y, if_pos y]; exact ⟨Or.inr rfl, Or.inr rfl⟩
    · rw [if_neg y, if_neg y]; exact B.2.2.2 p hp
  · rw [own_bt_orr, own_3s hm f hf]
    by_cases y : f / 2 = ix m
    · rw [opm f y]; simp [y]
    · rw [opn f y, O f hf]; simp [y]
  · obtain ⟨c0, c1, e⟩ := C
    have k0 := ix_int c0.1
    have k1 := ix_int c1.1
    have x0 := ix_int (i := x3) (by omega)
    have key := own_cl0 ⟨ix (gI s 5 0), by omega⟩ ⟨ix (gI s 5 1), by omega⟩
    have ex : x3 = Int32.ofNat (ix (gI s 5 0) + 16 * ix (gI s 5 1)) := by
      rw [own_i32 x3 (by omega)]
      have : ix x3 = ix (gI s 5 0) + 16 * ix (gI s 5 1) := by omega
      rw [this]
    simp only at key
    rw [← ex] at key
    unfold own_cc
    have cz : (0 : Int32).toInt = 0 := by decide
    rcases own_p01 hm with q | q
    · subst q
      have i0 : ix (0 : Int32) = 0 := rfl
      rw [u5, u5, i0, if_pos rfl, if_neg (by decide), key.1, cz]
      exact ⟨by omega, c1, by omega⟩
    · subst q
      have i1 : ix (1 : Int32) = 1 := rfl
      rw [u5, u5, i1, if_neg (by decide), if_pos rfl, key.2, cz]
      exact ⟨c0, by omega, by omega⟩
  · have Sf := S q f hq hf
    have hc : ∀ c, 6 ≤ c → c ≤ 9 → gI u c (16 * q + f) = gI s c (16 * q + f) := fun c a b => uc c _ (by omega) (by omega) (by omega) (by omega)
    unfold own_sl at Sf ⊢
    rw [hc 6 (by decide) (by decide), hc 7 (by decide) (by decide), hc 8 (by decide) (by decide), hc 9 (by decide) (by decide)]
    refine ⟨Sf.1, Sf.2.1, fun r => ?_⟩
    have w := Sf.2.2 r
    by_cases y : f / 2 = ix m
    · exact absurd (op0 f y) w.1
    · rw [opn f y]; exact w
  · have Dp := D p hp
    unfold own_dt at Dp ⊢
    by_cases y : p = ix m
    · rw [u4, u5, if_pos y, if_pos y]
      refine ⟨by decide, fun k hk => ?_⟩
      rw [own_by_cl4 x8 (32 * m) (p := ix m) (by omega) (by omega) (by omega) e32, if_pos (by omega), if_neg (by show ¬ k < 0; omega)]
    · rw [u4, u5, if_neg y, if_neg y]
      refine ⟨Dp.1, fun k hk => ?_⟩
      rw [own_by_cl4 x8 (32 * m) (p := ix m) (by omega) (by omega) (by omega) e32, if_neg (by omega), Dp.2 k hk, uc 3 _ (by decide) (by decide) (by decide) (by decide)]
/-- ctlDel -/
theorem own_I_d {x2 x3 x4 x5 x6 x7 : Int32} {x8 x10 : Int64} {s t : St} (I : own_I x2 x3 x4 x5 x6 x7 x8 x10 s) (k : Int32) {q f : Nat} (hq : q < 2) (hf : f < 4) (ek : k = Int32.ofNat (4 * q + f)) (fr : ∀ c j, ¬ ((6 ≤ c ∧ c ≤ 9) ∧ j = 16 * q + f) → gI t c j = gI s c j) (t6 : gI t 6 (16 * q + f) = 0) (t9 : gI t 9 (16 * q + f) = 0) : own_I x2 x3 (x4 &&& (((15 : Int32) <<< ((k * 4) &&& 31)) ^^^ (-1))) x5 x6 x7 x8 (x10 &&& (((255 : Int64) <<< ((k * 8).toInt64 &&& 63)) ^^^ (-1))) t := by
  subst ek
  refine own_HI (own_H_slot (own_IH I) hq hf (fun c j a _ _ => fr c j a) (fun n hn ne => ⟨by rw [own_ni_clr _ (by omega) hn, if_neg ne], by rw [own_by_clr _ (by omega) hn, if_neg ne]⟩) ?_) (own_rs_cg I.2.2.2.2.2 (fr 0 _ (by omega)) (fun c j h => fr c j (by omega)))
  unfold own_sl
  rw [own_ni_clr _ (by omega) (by omega), own_by_clr _ (by omega) (by omega), if_pos rfl, if_pos rfl, t6, t9]
  exact ⟨rfl, fun _ => rfl, fun w => absurd rfl w⟩
/-- ctlAdd, ctlMod -/
theorem own_I_a {x2 x3 x4 x5 x6 x7 : Int32} {x8 x10 : Int64} {s t : St} (I : own_I x2 x3 x4 x5 x6 x7 x8 x10 s) (k w y0 : Int32) {q f : Nat} (hq : q < 2) (hf : f < 4) (ek : k = Int32.ofNat (4 * q + f)) (ho : own_op s f ≠ 0) (hw : w &&& (-52) = 0) (hy : ∀ j, 4 ≤ j → own_bt y0 j = false) (fr : ∀ c j, ¬ ((6 ≤ c ∧ c ≤ 9) ∧ j = 16 * q + f) → gI t c j = gI s c j) (t6 : gI t 6 (16 * q + f) ≠ 0) (t7 : gI t 7 (16 * q + f) = w) (t8 : gI t 8 (16 * q + f) = 1) (t9 : gI t 9 (16 * q + f) = y0) : own_I x2 x3 ((x4 &&& (((15 : Int32) <<< ((k * 4) &&& 31)) ^^^ (-1))) ||| (y0 <<< ((k * 4) &&& 31))) x5 x6 x7 x8 ((x10 &&& (((255 : Int64) <<< ((k * 8).toInt64 &&& 63)) ^^^ (-1))) ||| ((Int32.toInt64 (128 ||| w)) <<< ((k * 8).toInt64 &&& 63))) t := by
  subst ek
  obtain ⟨b0, br, -, -, -, -, -, -, -, be⟩ := own_bbx (e := 1) hw
  rw [be]
  refine own_HI (own_H_slot (own_IH I) hq hf (fun c j a _ _ => fr c j a) (fun n hn ne => ⟨by rw [own_ni_set _ _ (by omega) hn hy, if_neg ne], by rw [own_by_set _ _ br (by omega) hn, if_neg ne]⟩) ?_) (own_rs_cg I.2.2.2.2.2 (fr 0 _ (by omega)) (fun c j h => fr c j (by omega)))
  unfold own_sl
  rw [own_ni_set _ _ (by omega) (by omega) hy, own_by_set _ _ br (by omega) (by omega), if_pos rfl, if_pos rfl, t7, t8, t9]
  refine ⟨rfl, fun z => absurd z t6, fun _ => ⟨?_, hw, rfl⟩⟩
  rw [own_op_cg (s := s) (fun j => fr 1 j (by omega)) (fun j => fr 2 j (by omega))]
  exact ho

/-! the poller's calls, exactly -/
theorem own_k15 (s : St) (B : own_B s) (Q : Int32 → St → Prop) (h0 : gI s 1 0 = 0 → gI s 2 0 = 0 → Q 0 (sI (sI (sI (sI s 1 (ix 0) 1) 2 (ix 0) 1) 4 (ix 0) 0) 5 (ix 0) 0)) (h1 : ¬ (gI s 1 0 = 0 ∧ gI s 2 0 = 0) → gI s 1 1 = 0 → gI s 2 1 = 0 → Q 1 (sI (sI (sI (sI s 1 (ix 1) 1) 2 (ix 1) 1) 4 (ix 1) 0) 5 (ix 1) 0)) (h8 : ¬ (gI s 1 0 = 0 ∧ gI s 2 0 = 0) → ¬ (gI s 1 1 = 0 ∧ gI s 2 1 = 0) → Q (-8) s) : calI PP 15 11 [.ref 0] s Q := by
  have i0 : ix (0 : Int32) = 0 := rfl
  have i1 : ix (1 : Int32) = 1 := rfl
  have e1 : (0 : Int32) + 1 = 1 := by decide
  have e2 : (1 : Int32) + 1 = 2 := by decide
  have last : ¬ (gI s 1 0 = 0 ∧ gI s 2 0 = 0) → ¬ (gI s 1 1 = 0 ∧ gI s 2 1 = 0) → wpcI PP 15 cm15 11 58 [some (.ref 0), some (.int (1 : Int32))] [] s Q := fun a b => c15_58 _ _ _ (by
    rw [e2]
    exact c15_2 _ _ _ ⟨fun q => absurd q (by rw [B.1]; decide), fun _ => h8 a b⟩)
  have mid : ¬ (gI s 1 0 = 0 ∧ gI s 2 0 = 0) → wpcI PP 15 cm15 11 58 [some (.ref 0), some (.int (0 : Int32))] [] s Q := fun a => c15_58 _ _ _ (by
    rw [e1]
    refine c15_2 _ _ _ ⟨fun _ => ⟨by decide, fun z1 => ⟨by decide, fun z2 => ⟨by decide, by decide, by decide, by decide, h1 a (by rw [i1] at z1; exact z1) (by rw [i1] at z2; exact z2)⟩, fun z2 => last a fun w => z2 (by rw [i1]; exact w.2)⟩, fun z1 => last a fun w => z1 (by rw [i1]; exact w.1)⟩, fun q => absurd (by rw [B.1]; decide) q⟩)
  apply c15_in
  exact c15_2 _ _ _ ⟨fun _ => ⟨by decide, fun z1 => ⟨by decide, fun z2 => ⟨by decide, by decide, by decide, by decide, h0 (by rw [i0] at z1; exact z1) (by rw [i0] at z2; exact z2)⟩, fun z2 => mid fun w => z2 (by rw [i0]; exact w.2)⟩, fun z1 => mid fun w => z1 (by rw [i0]; exact w.1)⟩, fun q => absurd (by rw [B.1]; decide) q⟩
/-- the pair of pend values after an edge update -/
def own_up (u t : St) (p : Nat) (o0 o1 : Int32) : Prop := (∀ c j, c ≠ 9 → gI t c j = gI u c j) ∧ (∀ q f, q < 2 → f < 4 → gI t 9 (16 * q + f) = if f / 2 = p then own_eu u (if f % 2 = 0 then o0 else o1) q f else gI u 9 (16 * q + f))
theorem own_oqn {s : St} {fd : Int32} (h : own_oq s fd ≠ 0) : 0 ≤ fd.toInt ∧ fd.toInt < 4 := by
  unfold own_oq at h
  by_cases c : 0 ≤ fd.toInt ∧ fd.toInt < 4
  · exact c
  · rw [if_neg c] at h; exact absurd rfl h
theorem own_pr {fd : Int32} (h : 0 ≤ fd.toInt ∧ fd.toInt < 4) : (0 ≤ (fd >>> ((1 : Int32) &&& 31)).toInt ∧ (fd >>> ((1 : Int32) &&& 31)).toInt < 2) ∧ (0 ≤ (2 * (fd >>> ((1 : Int32) &&& 31))).toInt ∧ (2 * (fd >>> ((1 : Int32) &&& 31))).toInt < 4) ∧ (0 ≤ (2 * (fd >>> ((1 : Int32) &&& 31)) + 1).toInt ∧ (2 * (fd >>> ((1 : Int32) &&& 31)) + 1).toInt < 4) ∧ ix (2 * (fd >>> ((1 : Int32) &&& 31))) = 2 * ix (fd >>> ((1 : Int32) &&& 31)) ∧ ix (2 * (fd >>> ((1 : Int32) &&& 31)) + 1) = 2 * ix (fd >>> ((1 : Int32) &&& 31)) + 1 := by
  have a := own_sh1 fd
  generalize fd >>> ((1 : Int32) &&& 31) = p at a ⊢
  have hp : 0 ≤ p.toInt ∧ p.toInt < 2 := by omega
  have xp := ix_int hp.1
  have m2 : (2 * p).toInt = 2 * p.toInt := i32_mul (x := 2) (y := p) (by show (-2147483648 : Int) ≤ 2 * p.toInt; omega) (by show 2 * p.toInt < (2147483648 : Int); omega)
  have m3 : (2 * p + 1).toInt = 2 * p.toInt + 1 := by
    have := i32_add (x := 2 * p) (y := 1) (by show (-2147483648 : Int) ≤ (2 * p).toInt + 1; omega) (by show (2 * p).toInt + 1 < (2147483648 : Int); omega)
    rw [this, m2]; rfl
  have x2 := ix_int (i := 2 * p) (by omega)
  have x3 := ix_int (i := 2 * p + 1) (by omega)
  exact ⟨hp, by omega, by omega, by omega, by omega⟩
theorem own_bufx {p y : Int32} {n : Nat} (hp : 0 ≤ p.toInt ∧ p.toInt < 2) (hy : y.toInt = n) : inb 128 (p * 16 + (y &&& 15)) ∧ ix (p * 16 + (y &&& 15)) = 16 * ix p + n % 16 := by
  have xp := ix_int hp.1
  have m := Jvm.Kit.i32_mask y 15 (k := 4) (by decide) (by decide)
  have e : ((2 : Int) ^ 4) = 16 := by decide
  rw [e, hy] at m
  generalize y &&& 15 = z at m ⊢
  have e1 : (p * 16).toInt = p.toInt * 16 := i32_mul (x := p) (y := 16) (by show (-2147483648 : Int) ≤ p.toInt * 16; omega) (by show p.toInt * 16 < (2147483648 : Int); omega)
  have e2 : (p * 16 + z).toInt = p.toInt * 16 + z.toInt := by rw [i32_add] <;> rw [e1] <;> omega
  have x := ix_int (i := p * 16 + z) (by omega)
  exact ⟨⟨by omega, by show _ < (128 : Int); omega⟩, by omega⟩
/-- write -/
theorem own_k16 {x2 x3 x4 x5 x6 x7 : Int32} {x8 x10 : Int64} (s : St) (I : own_I x2 x3 x4 x5 x6 x7 x8 x10 s) (fd v p : Int32) (ep : p = fd >>> ((1 : Int32) &&& 31)) (Q : Int32 → St → Prop) (h1 : own_oq s fd = 0 ∨ fd &&& 1 = 0 → Q (-1) s) (h4 : own_oq s fd ≠ 0 → ¬ fd &&& 1 = 0 → gI s 1 (ix p) = 0 → Q (-4) s) (h2 : own_oq s fd ≠ 0 → ¬ fd &&& 1 = 0 → gI s 1 (ix p) ≠ 0 → ¬ gI s 5 (ix p) < 4 → Q (-2) s) (h : own_oq s fd ≠ 0 → ¬ fd &&& 1 = 0 → gI s 1 (ix p) ≠ 0 → gI s 5 (ix p) < 4 → ∀ t, own_up (sI (sI s 3 (16 * ix p + (ix (gI s 4 (ix p)) + ix (gI s 5 (ix p))) % 16) (v &&& 255)) 5 (ix p) (gI s 5 (ix p) + 1)) t (ix p) (own_ry s (2 * ix p)) (own_ry s (2 * ix p + 1)) → Q 0 t) : calI PP 16 11 [.ref 0, .int fd, .int v] s Q := by
  obtain ⟨⟨B, c4⟩, O, C, S, D, V⟩ := I
  apply c16_in
  rw [← ep]
  refine own_j3 s B fd _ ⟨fun a => h1 (Or.inl a), fun a => ⟨fun e => h1 (Or.inr e), fun e => ?_⟩⟩
  have hf := own_oqn a
  obtain ⟨hb, hi⟩ := own_hx hf
  obtain ⟨hp, h2', h3', i2, i3⟩ := own_pr hf
  rw [← ep] at hb hi hp h2' h3' i2 i3
  have xp := ix_int hp.1
  have cp : 0 ≤ (gI s 5 (ix p)).toInt ∧ (gI s 5 (ix p)).toInt ≤ 4 := by
    have : ix p = 0 ∨ ix p = 1 := by omega
    rcases this with q | q <;> rw [q]
    · exact C.1
    · exact C.2.1
  have hd := (D (ix p) (by omega)).1
  have xh := ix_int hd.1
  have xc := ix_int cp.1
  have sm : (gI s 4 (ix p) + gI s 5 (ix p)).toInt = ((ix (gI s 4 (ix p)) + ix (gI s 5 (ix p)) : Nat) : Int) := by rw [i32_add (by omega) (by omega)]; omega
  obtain ⟨bx, bi⟩ := own_bufx hp sm
  rw [c4]
  refine ⟨hb, fun z => h4 a e z, fun z => ⟨hb, fun l => own_i4 s _ h2' _ (own_i4 s _ h3' _ ⟨hb, hb, bx, hb, hb, ?_⟩), fun l => h2 a e z l⟩⟩
  rw [i2, i3, bi]
  refine own_j2 _ (own_B_c2 B (fun c j hc => by rw [own_nc (by omega), own_nc (by omega)])) p _ _ hp _ fun t tc t9 => h a e z l t ⟨tc, t9⟩
/-- read -/
theorem own_k17 {x2 x3 x4 x5 x6 x7 : Int32} {x8 x10 : Int64} (s : St) (I : own_I x2 x3 x4 x5 x6 x7 x8 x10 s) (fd p : Int32) (ep : p = fd >>> ((1 : Int32) &&& 31)) (Q : Int32 → St → Prop) (h1 : own_oq s fd = 0 ∨ ¬ fd &&& 1 = 0 → Q (-1) s) (h3 : own_oq s fd ≠ 0 → fd &&& 1 = 0 → gI s 5 (ix p) = 0 → gI s 2 (ix p) = 0 → Q (-3) s) (h2 : own_oq s fd ≠ 0 → fd &&& 1 = 0 → gI s 5 (ix p) = 0 → gI s 2 (ix p) ≠ 0 → Q (-2) s) (h : own_oq s fd ≠ 0 → fd &&& 1 = 0 → gI s 5 (ix p) ≠ 0 → ∀ t, own_up (sI (sI s 4 (ix p) ((gI s 4 (ix p) + 1) &&& 15)) 5 (ix p) (gI s 5 (ix p) - 1)) t (ix p) (own_ry s (2 * ix p)) (own_ry s (2 * ix p + 1)) → Q (gI s 3 (16 * ix p + ix (gI s 4 (ix p)) % 16)) t) : calI PP 17 11 [.ref 0, .int fd] s Q := by
  obtain ⟨⟨B, c4⟩, O, C, S, D, V⟩ := I
  apply c17_in
  rw [← ep]
  refine own_j3 s B fd _ ⟨fun a => h1 (Or.inl a), fun a => ⟨fun e => ?_, fun e => h1 (Or.inr e)⟩⟩
  have hf := own_oqn a
  obtain ⟨hb, hi⟩ := own_hx hf
  obtain ⟨hp, h2', h3', i2, i3⟩ := own_pr hf
  rw [← ep] at hb hi hp h2' h3' i2 i3
  have xp := ix_int hp.1
  have hd := (D (ix p) (by omega)).1
  have xh := ix_int hd.1
  obtain ⟨bx, bi⟩ := own_bufx (y := gI s 4 (ix p)) (n := ix (gI s 4 (ix p))) hp (by omega)
  refine ⟨hb, fun z => ⟨hb, fun y => h3 a e z y, fun y => h2 a e z y⟩, fun z => own_i4 s _ h2' _ (own_i4 s _ h3' _ ⟨hb, bx, hb, hb, hb, hb, ?_⟩)⟩
  rw [i2, i3, bi]
  refine own_j2 _ (own_B_c2 B (fun c j hc => by rw [own_nc (by omega), own_nc (by omega)])) p _ _ hp _ fun t tc t9 => h a e z t ⟨tc, t9⟩
/-- removeRegs -/
theorem own_j12 (s : St) (B : own_B s) (fd : Int32) (h : 0 ≤ fd.toInt ∧ fd.toInt < 4) (Q : St → Prop) (hQ : ∀ t, (∀ c j, ¬ (6 ≤ c ∧ c ≤ 9) → gI t c j = gI s c j) → (∀ c q f, q < 2 → f < 4 → f ≠ ix fd → gI t c (16 * q + f) = gI s c (16 * q + f)) → (∀ q, q < 2 → gI t 6 (16 * q + ix fd) = 0 ∧ gI t 9 (16 * q + ix fd) = 0) → Q t) : calV PP 12 11 [.ref 0, .int fd] s Q := by
  have xf := ix_int h.1
  apply c12_in
  refine loop_up (F := fun i => ∀ u, (∀ c j, ¬ (6 ≤ c ∧ c ≤ 9) → gI u c j = gI s c j) → (∀ c q f, q < 2 → f < 4 → f ≠ ix fd → gI u c (16 * q + f) = gI s c (16 * q + f)) → (∀ q, q < ix i → gI u 6 (16 * q + ix fd) = 0 ∧ gI u 9 (16 * q + ix fd) = 0) → wpcV PP 12 cm12 11 2 [some (.ref 0), some (.int fd), some (.int i)] [] u Q) 2 (by decide) (fun i i0 i1 e ih u uc uo ud => ?_) (fun i hi u uc uo ud => ?_) 0 (by decide) (by decide) s (fun _ _ _ => rfl) (fun _ _ _ _ _ _ => rfl) (fun q hq => absurd hq (by show ¬ q < 0; omega))
  · have xi := ix_int i0
    have xj := ix_int (i := i + 1) (by omega)
    obtain ⟨ib, ei⟩ := own_sx (q := i) (fd := fd) ⟨i0, i1⟩ h
    refine c12_2 _ _ _ _ ⟨fun _ => c8_in _ _ _ _ (c11_in _ _ _ ⟨ib, ib, ib, ib, ih _ (fun c j hc => ?_) (fun c q f hq hf ne => ?_) (fun q hq => ?_)⟩), fun q => absurd (by rw [uc 0 _ (by omega), B.2.1, i32_lt]; exact i1) q⟩
    · rw [own_nc (by omega), own_nc (by omega), own_nc (by omega), own_nc (by omega)]; exact uc c j hc
    · rw [ei, own_ne (by omega), own_ne (by omega), own_ne (by omega), own_ne (by omega)]; exact uo c q f hq hf ne
    · rw [ei]
      by_cases y : q = ix i
      · subst y
        rw [own_nc (by decide), own_nc (by decide), own_nc (by decide), own_eq, own_eq]
        exact ⟨rfl, rfl⟩
      · rw [own_nc (by decide), own_nc (by decide), own_nc (by decide), own_ne (by omega), own_ne (by omega), own_nc (by decide), own_nc (by decide), own_nc (by decide)]
        exact ud q (by omega)
  · have xi := ix_int (i := i) (by omega)
    exact c12_2 _ _ _ _ ⟨fun q => absurd q (by rw [uc 0 _ (by omega), B.2.1, i32_lt, hi]; decide), fun _ => hQ u uc uo fun q hq => ud q (by omega)⟩
theorem own_xr (fd : Int32) (h : 0 ≤ fd.toInt ∧ fd.toInt < 4) : (0 ≤ (fd ^^^ 1).toInt ∧ (fd ^^^ 1).toInt < 4) ∧ ix (fd ^^^ 1) / 2 = ix fd / 2 ∧ ix (fd ^^^ 1) ≠ ix fd := by
  have xf := ix_int h.1
  have key : ∀ n : Fin 4, (0 ≤ (Int32.ofNat n.val ^^^ 1).toInt ∧ (Int32.ofNat n.val ^^^ 1).toInt < 4) ∧ ix (Int32.ofNat n.val ^^^ 1) / 2 = n.val / 2 ∧ ix (Int32.ofNat n.val ^^^ 1) ≠ n.val := by decide
  have := key ⟨ix fd, by omega⟩
  rw [← own_i32 fd h.1] at this
  exact this
/-- closeFd -/
theorem own_k18 (s : St) (B : own_B s) (fd : Int32) (Q : Int32 → St → Prop) (h1 : own_oq s fd = 0 → Q (-1) s) (h : own_oq s fd ≠ 0 → ∀ u, (∀ c j, c ≠ 1 → c ≠ 2 → ¬ (6 ≤ c ∧ c ≤ 9) → gI u c j = gI s c j) → own_B u → own_op u (ix fd) = 0 → (∀ f, f < 4 → f ≠ ix fd → own_op u f = own_op s f) → (∀ c q f, q < 2 → f < 4 → f ≠ ix fd → 6 ≤ c → c ≤ 9 → gI u c (16 * q + f) = gI s c (16 * q + f)) → (∀ q, q < 2 → gI u 6 (16 * q + ix fd) = 0 ∧ gI u 9 (16 * q + ix fd) = 0) → ∀ t o, (own_op s (ix (fd ^^^ 1)) ≠ 0 → o = own_ry s (ix (fd ^^^ 1))) → (∀ c j, c ≠ 9 → gI t c j = gI u c j) → (∀ q f, q < 2 → f < 4 → gI t 9 (16 * q + f) = if f = ix (fd ^^^ 1) then own_eu u o q f else gI u 9 (16 * q + f)) → Q 0 t) : calI PP 18 11 [.ref 0, .int fd] s Q := by
  apply c18_in
  refine own_j3 s B fd _ ⟨fun a => h1 a, fun a => ?_⟩
  have hf := own_oqn a
  have xf := ix_int hf.1
  obtain ⟨hx, x2, xn⟩ := own_xr fd hf
  obtain ⟨hb, hi⟩ := own_hx hf
  have od := own_odd fd hf.1
  have go : ∀ o : Int32, (own_op s (ix (fd ^^^ 1)) ≠ 0 → o = own_ry s (ix (fd ^^^ 1))) → wpcI PP 18 cm18 11 36 [some (.ref 0), some (.int fd), some (.int (fd >>> ((1 : Int32) &&& 31))), some (.int (fd ^^^ 1)), some (.int o)] [] s Q := by
    intro o ho
    have fin : ∀ w, (∀ c j, c ≠ 1 → c ≠ 2 → gI w c j = gI s c j) → own_B w → own_op w (ix fd) = 0 → (∀ f, f < 4 → f ≠ ix fd → own_op w f = own_op s f) → wpcI PP 18 cm18 11 59 [some (.ref 0), some (.int fd), none, some (.int (fd ^^^ 1)), some (.int o)] [] w Q := fun w wc Bw w0 wn => by
      refine c18_59 _ _ _ _ _ (own_j12 w Bw fd hf _ fun u uc uo ud => ?_)
      have Bu : own_B u := own_B_c2 Bw (fun c j hc => uc c j (by omega))
      have opu : ∀ f, own_op u f = own_op w f := own_op_cg (fun j => uc 1 j (by decide)) (fun j => uc 2 j (by decide))
      exact own_j13 u Bu _ o hx _ fun t tc t9 => h a u (fun c j h1 h2 h3 => by rw [uc c j h3, wc c j h1 h2]) Bu (by rw [opu]; exact w0) (fun f hf' ne => by rw [opu]; exact wn f hf' ne) (fun c q f hq hf' ne c6 c9 => by rw [uo c q f hq hf' ne, wc c _ (by omega) (by omega)]) ud t o ho tc t9
    refine c18_36 _ _ _ _ _ _ ⟨fun e => ⟨hb, fin _ (fun c j p _ => own_nc p) ?_ ?_ (fun f hf' ne => ?_)⟩, fun e => ⟨hb, fin _ (fun c j _ p => own_nc p) ?_ ?_ (fun f hf' ne => ?_)⟩⟩
    · obtain ⟨b1, b2, b3, b4⟩ := B
      refine ⟨by rw [own_nc (by decide)]; exact b1, by rw [own_nc (by decide)]; exact b2, by rw [own_nc (by decide)]; exact b3, fun p hp => ?_⟩
      rw [own_nc (c' := 2) (by decide), gI_sI]
      refine ⟨?_, (b4 p hp).2⟩
      split
      · exact Or.inl rfl
      · exact (b4 p hp).1
    · unfold own_op
      rw [if_pos (od.mp e), hi, own_eq]
    · have en := od.mp e
      unfold own_op
      by_cases ef : f % 2 = 0
      · rw [if_pos ef, if_pos ef, hi, own_ne (by omega)]
      · rw [if_neg ef, if_neg ef, own_nc (by decide)]
    · obtain ⟨b1, b2, b3, b4⟩ := B
      refine ⟨by rw [own_nc (by decide)]; exact b1, by rw [own_nc (by decide)]; exact b2, by rw [own_nc (by decide)]; exact b3, fun p hp => ?_⟩
      rw [own_nc (c' := 1) (by decide), gI_sI]
      refine ⟨(b4 p hp).1, ?_⟩
      split
      · exact Or.inl rfl
      · exact (b4 p hp).2
    · unfold own_op
      rw [if_neg (fun w => e (od.mpr w)), hi, own_eq]
    · have en : ¬ ix fd % 2 = 0 := fun w => e (od.mpr w)
      unfold own_op
      by_cases ef : f % 2 = 0
      · rw [if_pos ef, if_pos ef, own_nc (by decide)]
      · rw [if_neg ef, if_neg ef, hi, own_ne (by omega)]
  exact own_i3 s B _ hx _ ⟨fun z => go 0 (fun w => absurd z w), fun z => own_i4 s _ hx _ (go _ (fun _ => rfl))⟩
/-- arm -/
theorem own_j10 (s : St) (q fd w : Int32) (hq : 0 ≤ q.toInt ∧ q.toInt < 2) (h : 0 ≤ fd.toInt ∧ fd.toInt < 4) (Q : St → Prop) (hQ : ∀ t, (∀ c j, ¬ ((7 ≤ c ∧ c ≤ 9) ∧ j = 16 * ix q + ix fd) → gI t c j = gI s c j) → gI t 7 (16 * ix q + ix fd) = w → gI t 8 (16 * ix q + ix fd) = 1 → gI t 9 (16 * ix q + ix fd) = (if w &&& 16 = 0 then 0 else own_ry s (ix fd) &&& own_wa w) → Q t) : calV PP 10 11 [.ref 0, .int (q * 16 + fd), .int fd, .int w] s Q := by
  obtain ⟨ib, ei⟩ := own_sx hq h
  apply c10_in
  rw [ei]
  refine ⟨ib, ib, fun z => ⟨ib, hQ _ (fun c j a => ?_) (by simp [gI_sI]) (by simp [gI_sI]) (by rw [own_eq, if_pos z])⟩, fun z => own_i4 _ fd h _ (c5_in _ _ _ ⟨ib, hQ _ (fun c j a => ?_) (by simp [gI_sI]) (by simp [gI_sI]) ?_⟩)⟩
  · rw [own_ne (by omega), own_ne (by omega), own_ne (by omega)]
  · rw [own_ne (by omega), own_ne (by omega), own_ne (by omega)]
  · rw [own_eq, if_neg z]
    have : own_ry (sI (sI s 7 (16 * ix q + ix fd) w) 8 (16 * ix q + ix fd) 1) (ix fd) = own_ry s (ix fd) := own_ry_cg _ (by rw [own_nc (by decide), own_nc (by decide)]) (by rw [own_nc (by decide), own_nc (by decide)]) (by rw [own_nc (by decide), own_nc (by decide)]) (by rw [own_nc (by decide), own_nc (by decide)])
    rw [this]; rfl
def own_ar (s t : St) (q f : Nat) (w : Int32) : Prop := (∀ c j, ¬ ((6 ≤ c ∧ c ≤ 9) ∧ j = 16 * q + f) → gI t c j = gI s c j) ∧ gI t 6 (16 * q + f) ≠ 0 ∧ gI t 7 (16 * q + f) = w ∧ gI t 8 (16 * q + f) = 1 ∧ gI t 9 (16 * q + f) = (if w &&& 16 = 0 then 0 else own_ry s f &&& own_wa w)
theorem own_k19 (s : St) (B : own_B s) (q fd w : Int32) (Q : Int32 → St → Prop) (h6 : ¬ (0 ≤ q.toInt ∧ q.toInt < 2) ∨ ¬ w &&& (-52) = 0 → Q (-6) s) (h1 : (0 ≤ q.toInt ∧ q.toInt < 2) → w &&& (-52) = 0 → own_oq s fd = 0 → Q (-1) s) (h5 : (0 ≤ q.toInt ∧ q.toInt < 2) → w &&& (-52) = 0 → own_oq s fd ≠ 0 → gI s 6 (16 * ix q + ix fd) ≠ 0 → Q (-5) s) (h : (0 ≤ q.toInt ∧ q.toInt < 2) → w &&& (-52) = 0 → own_oq s fd ≠ 0 → gI s 6 (16 * ix q + ix fd) = 0 → ∀ t, own_ar s t (ix q) (ix fd) w → Q 0 t) : calI PP 19 11 [.ref 0, .int q, .int fd, .int w] s Q := by
  apply c19_in
  by_cases hq : 0 ≤ q.toInt ∧ q.toInt < 2
  · refine own_i6 s B q hq _ ⟨fun w => absurd w (by decide), fun _ => c7_in _ _ _ ⟨fun hw => ⟨fun y => absurd y (by decide), fun _ => own_j3 s B fd _ ⟨fun a => h1 hq hw a, fun a => ?_⟩⟩, fun hw => ⟨fun _ => h6 (Or.inr hw), fun y => absurd rfl y⟩⟩⟩
    have hf := own_oqn a
    obtain ⟨ib, ei⟩ := own_sx hq hf
    apply c8_in
    rw [ei]
    refine ⟨ib, fun z => ⟨ib, own_j10 _ q fd w hq hf _ fun t tc t7 t8 t9 => h hq hw a z t ⟨fun c j n => by rw [tc c j (by omega), own_ne (by omega)], ?_, t7, t8, ?_⟩⟩, fun z => h5 hq hw a z⟩
    · rw [tc 6 _ (by omega), own_eq]; decide
    · rw [t9]
      have : own_ry (sI s 6 (16 * ix q + ix fd) 1) (ix fd) = own_ry s (ix fd) := own_ry_cg _ (own_nc (by decide)) (own_nc (by decide)) (own_nc (by decide)) (own_nc (by decide))
      rw [this]
  · exact own_i6n s B _ q hq ⟨fun _ => h6 (Or.inl hq), fun y => absurd rfl y⟩
theorem own_k20 (s : St) (B : own_B s) (q fd w : Int32) (Q : Int32 → St → Prop) (h6 : ¬ (0 ≤ q.toInt ∧ q.toInt < 2) ∨ ¬ w &&& (-52) = 0 → Q (-6) s) (h1 : (0 ≤ q.toInt ∧ q.toInt < 2) → w &&& (-52) = 0 → own_oq s fd = 0 → Q (-1) s) (h7 : (0 ≤ q.toInt ∧ q.toInt < 2) → w &&& (-52) = 0 → own_oq s fd ≠ 0 → gI s 6 (16 * ix q + ix fd) = 0 → Q (-7) s) (h : (0 ≤ q.toInt ∧ q.toInt < 2) → w &&& (-52) = 0 → own_oq s fd ≠ 0 → gI s 6 (16 * ix q + ix fd) ≠ 0 → ∀ t, own_ar s t (ix q) (ix fd) w → Q 0 t) : calI PP 20 11 [.ref 0, .int q, .int fd, .int w] s Q := by
  apply c20_in
  by_cases hq : 0 ≤ q.toInt ∧ q.toInt < 2
  · refine own_i6 s B q hq _ ⟨fun w => absurd w (by decide), fun _ => c7_in _ _ _ ⟨fun hw => ⟨fun y => absurd y (by decide), fun _ => own_j3 s B fd _ ⟨fun a => h1 hq hw a, fun a => ?_⟩⟩, fun hw => ⟨fun _ => h6 (Or.inr hw), fun y => absurd rfl y⟩⟩⟩
    have hf := own_oqn a
    obtain ⟨ib, ei⟩ := own_sx hq hf
    apply c8_in
    rw [ei]
    refine ⟨ib, fun z => h7 hq hw a z, fun z => own_j10 _ q fd w hq hf _ fun t tc t7 t8 t9 => h hq hw a z t ⟨fun c j n => tc c j (by omega), ?_, t7, t8, t9⟩⟩
    rw [tc 6 _ (by omega)]; exact z
  · exact own_i6n s B _ q hq ⟨fun _ => h6 (Or.inl hq), fun y => absurd rfl y⟩
theorem own_k21 (s : St) (B : own_B s) (q fd : Int32) (Q : Int32 → St → Prop) (h6 : ¬ (0 ≤ q.toInt ∧ q.toInt < 2) → Q (-6) s) (h1 : (0 ≤ q.toInt ∧ q.toInt < 2) → own_oq s fd = 0 → Q (-1) s) (h7 : (0 ≤ q.toInt ∧ q.toInt < 2) → own_oq s fd ≠ 0 → gI s 6 (16 * ix q + ix fd) = 0 → Q (-7) s) (h : (0 ≤ q.toInt ∧ q.toInt < 2) → own_oq s fd ≠ 0 → gI s 6 (16 * ix q + ix fd) ≠ 0 → ∀ t, (∀ c j, ¬ ((6 ≤ c ∧ c ≤ 9) ∧ j = 16 * ix q + ix fd) → gI t c j = gI s c j) → gI t 6 (16 * ix q + ix fd) = 0 → gI t 9 (16 * ix q + ix fd) = 0 → Q 0 t) : calI PP 21 11 [.ref 0, .int q, .int fd] s Q := by
  apply c21_in
  by_cases hq : 0 ≤ q.toInt ∧ q.toInt < 2
  · refine own_i6 s B q hq _ ⟨fun w => absurd w (by decide), fun _ => own_j3 s B fd _ ⟨fun a => h1 hq a, fun a => ?_⟩⟩
    have hf := own_oqn a
    obtain ⟨ib, ei⟩ := own_sx hq hf
    apply c8_in
    rw [ei]
    refine ⟨ib, fun z => h7 hq a z, fun z => c11_in _ _ _ ?_⟩
    rw [ei]
    exact ⟨ib, ib, ib, ib, h hq a z _ (fun c j n => by rw [own_ne (by omega), own_ne (by omega), own_ne (by omega), own_ne (by omega)]) (by rw [own_nc (by decide), own_nc (by decide), own_nc (by decide), own_eq]) own_eq⟩
  · exact own_i6n s B _ q hq ⟨fun _ => h6 hq, fun y => absurd rfl y⟩

/-! wait -/
def own_con (u : St) (i : Nat) : St := if gI u 7 i &&& 32 = 0 then (if gI u 7 i &&& 16 = 0 then u else sI u 9 i 0) else sI (sI u 8 i 0) 9 i 0
abbrev own_wn (u : St) (n : Int32) (q : Nat) (m : Int) (f : Nat) : Prop := n.toInt < m ∧ gI u 6 (16 * q + f) ≠ 0 ∧ own_pk u (16 * q + f) f ≠ 0
def own_ws (u : St) (n : Int32) (q f : Nat) : St := own_con (sI (sI u 10 (ix n) (Int32.ofNat f)) 11 (ix n) (own_pk u (16 * q + f) f)) (16 * q + f)
def own_wu (s : St) (q : Nat) (m : Int) : Nat → St × Int32
  | 0 => (s, 0)
  | f + 1 => if own_wn (own_wu s q m f).1 (own_wu s q m f).2 q m f then (own_ws (own_wu s q m f).1 (own_wu s q m f).2 q f, (own_wu s q m f).2 + 1) else own_wu s q m f
theorem own_wu_y {s : St} {q f : Nat} {m : Int} (h : own_wn (own_wu s q m f).1 (own_wu s q m f).2 q m f) : own_wu s q m (f + 1) = (own_ws (own_wu s q m f).1 (own_wu s q m f).2 q f, (own_wu s q m f).2 + 1) := by
  show (if own_wn (own_wu s q m f).1 (own_wu s q m f).2 q m f then _ else _) = _
  rw [if_pos h]
theorem own_wu_n {s : St} {q f : Nat} {m : Int} (h : ¬ own_wn (own_wu s q m f).1 (own_wu s q m f).2 q m f) : own_wu s q m (f + 1) = own_wu s q m f := by
  show (if own_wn (own_wu s q m f).1 (own_wu s q m f).2 q m f then _ else _) = _
  rw [if_neg h]
theorem own_wu_r (s : St) (q : Nat) (m : Int) : ∀ f, f ≤ 4 → 0 ≤ (own_wu s q m f).2.toInt ∧ (own_wu s q m f).2.toInt ≤ f
  | 0, _ => ⟨by show 0 ≤ (0 : Int32).toInt; decide, by show (0 : Int32).toInt ≤ _; simp⟩
  | f + 1, h => by
    have ih := own_wu_r s q m f (by omega)
    by_cases c : own_wn (own_wu s q m f).1 (own_wu s q m f).2 q m f
    · rw [own_wu_y c]
      have : ((own_wu s q m f).2 + 1).toInt = (own_wu s q m f).2.toInt + 1 := by rw [i32_add] <;> simp <;> omega
      show 0 ≤ ((own_wu s q m f).2 + 1).toInt ∧ ((own_wu s q m f).2 + 1).toInt ≤ _
      rw [this]; omega
    · rw [own_wu_n c]; omega
theorem own_wu_stop (s : St) (q : Nat) (m : Int) {f : Nat} (h : ¬ (own_wu s q m f).2.toInt < m) : ∀ g, f ≤ g → own_wu s q m g = own_wu s q m f
  | 0, hg => by rw [show f = 0 by omega]
  | g + 1, hg => by
    by_cases e : f = g + 1
    · rw [e]
    · have ih := own_wu_stop s q m h g (by omega)
      rw [own_wu_n (by rw [ih]; exact fun w => h w.1), ih]
theorem own_gt16 {x : Int32} : (16 : Int32) < x ↔ 16 < x.toInt := i32_lt
theorem own_k22 (s : St) (B : own_B s) (q m : Int32) (hm7 : m.toInt ≤ 7) (Q : Int32 → St → Prop) (h6 : ¬ (0 ≤ q.toInt ∧ q.toInt < 2) ∨ ¬ 1 ≤ m.toInt → Q (-6) s) (h : (0 ≤ q.toInt ∧ q.toInt < 2) → 1 ≤ m.toInt → Q (own_wu s (ix q) m.toInt 4).2 (sI (own_wu s (ix q) m.toInt 4).1 0 31 (own_wu s (ix q) m.toInt 4).2)) : calI PP 22 11 [.ref 0, .int q, .int m] s Q := by
  apply c22_in
  by_cases hq : 0 ≤ q.toInt ∧ q.toInt < 2
  · refine own_i6 s B q hq _ ⟨fun w => absurd w (by decide), fun _ => ⟨fun z => h6 (Or.inr (by rw [own_lt1] at z; omega)), fun z m' em => ?_⟩⟩
    rw [own_lt1] at z
    have em' : m' = m := by rw [em, if_neg (by rw [own_gt16]; omega)]
    subst em'
    clear em
    have hh := h hq (by omega)
    have e4 : (2 : Int32) * gI s 0 17 = 4 := by rw [B.1]; decide
    rw [e4]
    have xq := ix_int hq.1
    have fin : ∀ f, f ≤ 4 → own_wu s (ix q) m'.toInt 4 = own_wu s (ix q) m'.toInt f → wpcI PP 22 cm22 11 129 [some (.ref 0), none, none, none, some (.int (own_wu s (ix q) m'.toInt f).2), none, none, none, none] [] (own_wu s (ix q) m'.toInt f).1 Q := fun f hf e => by
      apply c22_129
      rw [← e]; exact hh
    refine loop_up (F := fun i => wpcI PP 22 cm22 11 43 [some (.ref 0), some (.int q), none, some (.int m'), some (.int (own_wu s (ix q) m'.toInt (ix i)).2), some (.int 4), some (.int i), none, none] [] (own_wu s (ix q) m'.toInt (ix i)).1 Q) 4 (by decide) (fun i i0 i1 e ih => ?_) (fun i hi => ?_) 0 (by decide) (by decide)
    · have xi := ix_int i0
      have xj := ix_int (i := i + 1) (by omega)
      have x1 : ix (i + 1) = ix i + 1 := by omega
      rw [x1] at ih
      have hfd : 0 ≤ i.toInt ∧ i.toInt < 4 := ⟨i0, i1⟩
      obtain ⟨ib, ei⟩ := own_sx hq hfd
      have nr := own_wu_r s (ix q) m'.toInt (ix i) (by omega)
      have nb : inb 16 (own_wu s (ix q) m'.toInt (ix i)).2 := ⟨nr.1, by show _ < (16 : Int); omega⟩
      have no : ¬ own_wn (own_wu s (ix q) m'.toInt (ix i)).1 (own_wu s (ix q) m'.toInt (ix i)).2 (ix q) m'.toInt (ix i) → wpcI PP 22 cm22 11 123 [some (.ref 0), some (.int q), none, some (.int m'), some (.int (own_wu s (ix q) m'.toInt (ix i)).2), some (.int 4), some (.int i), none, none] [] (own_wu s (ix q) m'.toInt (ix i)).1 Q := fun w => by
        rw [own_wu_n w] at ih
        exact c22_123 _ _ _ _ _ _ _ ih
      refine c22_43 _ _ _ _ _ _ _ ⟨fun _ => ⟨fun lt => c8_in _ _ _ _ ?_, fun nl => fin _ (by omega) (own_wu_stop s _ _ (by rw [i32_lt] at nl; exact nl) 4 (by omega))⟩, fun w => absurd (by rw [own_lt4]; exact i1) w⟩
      rw [i32_lt] at lt
      rw [ei]
      refine ⟨ib, fun z6 => no fun w => w.2.1 z6, fun z6 => own_i9 _ _ i ib hfd _ ?_⟩
      rw [ei]
      refine ⟨fun zp => no fun w => w.2.2 zp, fun zp => ⟨nb, nb, c23_in _ _ _ ?_⟩⟩
      rw [own_wu_y ⟨lt, z6, zp⟩] at ih
      rw [ei]
      have s7 : gI (sI (sI (own_wu s (ix q) m'.toInt (ix i)).1 10 (ix (own_wu s (ix q) m'.toInt (ix i)).2) i) 11 (ix (own_wu s (ix q) m'.toInt (ix i)).2) (own_pk (own_wu s (ix q) m'.toInt (ix i)).1 (16 * ix q + ix i) (ix i))) 7 (16 * ix q + ix i) = gI (own_wu s (ix q) m'.toInt (ix i)).1 7 (16 * ix q + ix i) := by rw [own_nc (by decide), own_nc (by decide)]
      unfold own_ws own_con at ih
      rw [← own_i32 i i0] at ih
      refine ⟨ib, fun a => ⟨ib, fun b => ?_, fun b => ⟨ib, ?_⟩⟩, fun a => ⟨ib, ib, ?_⟩⟩
      · rw [if_pos a, if_pos b] at ih
        exact c22_123 _ _ _ _ _ _ _ ih
      · rw [if_pos a, if_neg b] at ih
        exact c22_123 _ _ _ _ _ _ _ ih
      · rw [if_neg a] at ih
        exact c22_123 _ _ _ _ _ _ _ ih
    · have xi := ix_int (i := i) (by omega)
      have i4 : ix i = 4 := by omega
      rw [i4]
      exact c22_43 _ _ _ _ _ _ _ ⟨fun w => absurd w (by rw [own_lt4]; omega), fun _ => fin 4 (by omega) rfl⟩
  · exact own_i6n s B _ q hq ⟨fun _ => h6 (Or.inl hq), fun y => absurd rfl y⟩
/-- a long's bits against zero -/
theorem own_cm0 (y : Int64) : Jvm.Free.XT.cmpL y 0 = 0 ↔ y = 0 := by
  unfold Jvm.Free.XT.cmpL
  constructor
  · intro h
    by_cases a : (0 : Int64) < y
    · rw [if_pos a] at h; exact absurd h (by decide)
    · rw [if_neg a] at h
      by_cases b : y = 0
      · exact b
      · rw [if_neg b] at h; exact absurd h (by decide)
  · intro h
    subst h
    rfl
theorem own_cby (x : Int64) (c : Int32) (c0 : 0 ≤ c.toInt ∧ c.toInt < 256) {n : Nat} (hn : n < 8) : Jvm.Free.XT.ushrL x (Int32.ofNat n * 8) &&& Int32.toInt64 c = 0 ↔ own_by x n &&& c = 0 := by
  obtain ⟨a, b, e⟩ := own_ix8 hn
  rw [own_bl_zero, own_bt_zero]
  have key : ∀ j, j < 32 → own_bl (Jvm.Free.XT.ushrL x (Int32.ofNat n * 8) &&& Int32.toInt64 c) j = own_bt (own_by x n &&& c) j := fun j hj => by
    rw [own_bl_and, own_bl_ushr _ _ a b, e, own_bl_i64 c c0.1, own_bt_and, own_by_bit _ hn j hj]
    by_cases l : j < 8
    · simp [l]
    · rw [own_vhi c0 j (by omega)]; simp
  constructor
  · intro h j hj
    rw [← key j hj]; exact h j (by omega)
  · intro h j hj
    by_cases l : j < 32
    · rw [key j l]; exact h j l
    · rw [own_bl_and, own_bl_i64 c c0.1, own_bt_hi c j (by omega)]; simp
theorem own_pkb {s : St} {x10 : Int64} {x4 : Int32} {q f : Nat} (hq : q < 2) (hf : f < 4) (S : own_sl s x10 x4 q f) : ∀ j, 4 ≤ j → own_bt (own_pk s (16 * q + f) f) j = false := by
  unfold own_pk
  split
  · intro j _; exact own_bt_0 j
  · split
    · intro j hj; rw [own_bt_and, (own_ry0 s f).2 j hj]; rfl
    · rw [S.1]
      exact fun j hj => own_ni_hi x4 (by omega) j hj
/-- where the law's loop stands -/
def own_J (x2 x3 x4 x6 x7 : Int32) (x8 x10 : Int64) (u : St) (n : Int32) : Prop := own_H x2 x3 x4 x8 x10 u ∧ (∀ j, j < ix n → gI u 10 j = own_ni x6 j ∧ gI u 11 j = own_ni x7 j) ∧ (∀ j, ix n ≤ j → j < 8 → own_ni x6 j = 0 ∧ own_ni x7 j = 0)
theorem own_kq {q f : Int32} (hq : 0 ≤ q.toInt ∧ q.toInt < 2) (hf : 0 ≤ f.toInt ∧ f.toInt < 4) : q * 4 + f = Int32.ofNat (4 * ix q + ix f) ∧ (0 ≤ (q * 4 + f).toInt ∧ (q * 4 + f).toInt < 8) ∧ ix (q * 4 + f) = 4 * ix q + ix f := by
  have x := ix_int hq.1
  have y := ix_int hf.1
  have k : ∀ a : Fin 2, ∀ b : Fin 4, Int32.ofNat a.val * 4 + Int32.ofNat b.val = Int32.ofNat (4 * a.val + b.val) ∧ (0 ≤ (Int32.ofNat a.val * 4 + Int32.ofNat b.val).toInt ∧ (Int32.ofNat a.val * 4 + Int32.ofNat b.val).toInt < 8) ∧ ix (Int32.ofNat a.val * 4 + Int32.ofNat b.val) = 4 * a.val + b.val := by decide
  have := k ⟨ix q, by omega⟩ ⟨ix f, by omega⟩
  simp only at this
  rw [← own_i32 q hq.1, ← own_i32 f hf.1] at this
  exact this
/-- a step of the loop that reports -/
theorem own_J_s {x2 x3 x4 x6 x7 : Int32} {x8 x10 : Int64} {u : St} {n : Int32} (J : own_J x2 x3 x4 x6 x7 x8 x10 u n) (hn : 0 ≤ n.toInt ∧ n.toInt < 4) (q f : Int32) (hq : 0 ≤ q.toInt ∧ q.toInt < 2) (hf : 0 ≤ f.toInt ∧ f.toInt < 4) (r : gI u 6 (16 * ix q + ix f) ≠ 0) (k : Int32) (ek : k = q * 4 + f) (v : Int32) (ev : v = own_pk u (16 * ix q + ix f) (ix f)) (y4 : Int32) (y10 : Int64)
    (h4 : y4 = (if Jvm.Free.XT.cmpL (Jvm.Free.XT.ushrL x10 (k * 8) &&& 32) 0 = 0 then (if Jvm.Free.XT.cmpL (Jvm.Free.XT.ushrL x10 (k * 8) &&& 48) 0 = 0 then x4 else (x4 &&& (((15 : Int32) <<< ((k * 4) &&& 31)) ^^^ (-1)))) else (if Jvm.Free.XT.cmpL (Jvm.Free.XT.ushrL (x10 ||| ((64 : Int64) <<< ((k * 8).toInt64 &&& 63))) (k * 8) &&& 48) 0 = 0 then x4 else (x4 &&& (((15 : Int32) <<< ((k * 4) &&& 31)) ^^^ (-1)))))) (h10 : y10 = (if Jvm.Free.XT.cmpL (Jvm.Free.XT.ushrL x10 (k * 8) &&& 32) 0 = 0 then x10 else (x10 ||| ((64 : Int64) <<< ((k * 8).toInt64 &&& 63))))) : own_J x2 x3 y4 (x6 ||| (f <<< ((n * 4) &&& 31))) (x7 ||| (v <<< ((n * 4) &&& 31))) x8 y10 (own_ws u n (ix q) (ix f)) (n + 1) := by
  obtain ⟨H, R1, R2⟩ := J
  have xn := ix_int hn.1
  have xq := ix_int hq.1
  have xf := ix_int hf.1
  obtain ⟨k1, -, -⟩ := own_kq hq hf
  rw [k1] at ek
  have n1 : (n + 1).toInt = n.toInt + 1 := by rw [i32_add] <;> simp <;> omega
  have xn1 := ix_int (i := n + 1) (by omega)
  have Sq := H.2.2.2.1 (ix q) (ix f) (by omega) (by omega)
  have bb := own_slb Sq r
  obtain ⟨so, sw, -⟩ := Sq.2.2 r
  have n8 : 4 * ix q + ix f < 8 := by omega
  obtain ⟨-, -, -, -, -, -, b32, b64, b48, -⟩ := own_bbx (e := gI u 8 (16 * ix q + ix f)) sw
  obtain ⟨-, -, -, -, -, -, -, -, b480, -⟩ := own_bbx (e := 0) sw
  have c32 : Jvm.Free.XT.cmpL (Jvm.Free.XT.ushrL x10 (k * 8) &&& 32) 0 = 0 ↔ gI u 7 (16 * ix q + ix f) &&& 32 = 0 := by
    have e : (32 : Int64) = Int32.toInt64 32 := by decide
    rw [own_cm0, ek, e, own_cby _ _ (by decide) n8, bb, b32]
  have c48 : Jvm.Free.XT.cmpL (Jvm.Free.XT.ushrL x10 (k * 8) &&& 48) 0 = 0 ↔ gI u 7 (16 * ix q + ix f) &&& 48 = 0 := by
    have e : (48 : Int64) = Int32.toInt64 48 := by decide
    rw [own_cm0, ek, e, own_cby _ _ (by decide) n8, bb, b48]
  have c48' : Jvm.Free.XT.cmpL (Jvm.Free.XT.ushrL (x10 ||| ((64 : Int64) <<< ((k * 8).toInt64 &&& 63))) (k * 8) &&& 48) 0 = 0 ↔ gI u 7 (16 * ix q + ix f) &&& 48 = 0 := by
    have e : (48 : Int64) = Int32.toInt64 48 := by decide
    rw [own_cm0, ek, e, own_cby _ _ (by decide) n8, own_by_64 _ n8 n8, if_pos rfl, bb, b64, b480]
  have w48 : gI u 7 (16 * ix q + ix f) &&& 48 = 0 ↔ gI u 7 (16 * ix q + ix f) &&& 32 = 0 ∧ gI u 7 (16 * ix q + ix f) &&& 16 = 0 := by
    have w := own_w63 sw
    have x := ix_int w.1
    have kk : ∀ n : Fin 64, Int32.ofNat n.val &&& 48 = 0 ↔ Int32.ofNat n.val &&& 32 = 0 ∧ Int32.ofNat n.val &&& 16 = 0 := by decide +kernel
    have := kk ⟨ix (gI u 7 (16 * ix q + ix f)), by omega⟩
    simp only at this
    rw [← own_i32 _ w.1] at this
    exact this
  -- the state after the step
  generalize hu1 : sI (sI u 10 (ix n) (Int32.ofNat (ix f))) 11 (ix n) (own_pk u (16 * ix q + ix f) (ix f)) = u1
  have u1c : ∀ c j, c ≠ 10 → c ≠ 11 → gI u1 c j = gI u c j := fun c j a b => by rw [← hu1, own_nc b, own_nc a]
  have u110 : ∀ j, gI u1 10 j = if j = ix n then Int32.ofNat (ix f) else gI u 10 j := fun j => by subst hu1; simp [gI_sI]
  have u111 : ∀ j, gI u1 11 j = if j = ix n then own_pk u (16 * ix q + ix f) (ix f) else gI u 11 j := fun j => by subst hu1; simp [gI_sI]
  have ws : own_ws u n (ix q) (ix f) = own_con u1 (16 * ix q + ix f) := by unfold own_ws; rw [hu1]
  rw [ws]
  have cf : ∀ c j, ¬ ((8 ≤ c ∧ c ≤ 9) ∧ j = 16 * ix q + ix f) → gI (own_con u1 (16 * ix q + ix f)) c j = gI u1 c j := fun c j a => by
    unfold own_con
    split
    · split
      · rfl
      · rw [own_ne (by omega)]
    · rw [own_ne (by omega), own_ne (by omega)]
  have h7 : gI u1 7 (16 * ix q + ix f) = gI u 7 (16 * ix q + ix f) := u1c 7 _ (by decide) (by decide)
  have h8 : gI u1 8 (16 * ix q + ix f) = gI u 8 (16 * ix q + ix f) := u1c 8 _ (by decide) (by decide)
  have h9 : gI u1 9 (16 * ix q + ix f) = gI u 9 (16 * ix q + ix f) := u1c 9 _ (by decide) (by decide)
  have c8 : gI (own_con u1 (16 * ix q + ix f)) 8 (16 * ix q + ix f) = if gI u 7 (16 * ix q + ix f) &&& 32 = 0 then gI u 8 (16 * ix q + ix f) else 0 := by
    unfold own_con
    rw [h7]
    split
    · split
      · exact h8
      · rw [own_nc (by decide)]; exact h8
    · rw [own_nc (by decide), own_eq]
  have c9 : gI (own_con u1 (16 * ix q + ix f)) 9 (16 * ix q + ix f) = if gI u 7 (16 * ix q + ix f) &&& 48 = 0 then gI u 9 (16 * ix q + ix f) else 0 := by
    unfold own_con
    rw [h7]
    by_cases a : gI u 7 (16 * ix q + ix f) &&& 32 = 0
    · rw [if_pos a]
      by_cases b : gI u 7 (16 * ix q + ix f) &&& 16 = 0
      · rw [if_pos b, if_pos (w48.mpr ⟨a, b⟩)]; exact h9
      · rw [if_neg b, if_neg (fun w => b (w48.mp w).2), own_eq]
    · rw [if_neg a, if_neg (fun w => a (w48.mp w).1), own_eq]
  have y4' : y4 = if gI u 7 (16 * ix q + ix f) &&& 48 = 0 then x4 else (x4 &&& (((15 : Int32) <<< ((k * 4) &&& 31)) ^^^ (-1))) := by
    rw [h4]
    by_cases a : gI u 7 (16 * ix q + ix f) &&& 32 = 0
    · rw [if_pos (c32.mpr a)]
      by_cases b : gI u 7 (16 * ix q + ix f) &&& 48 = 0
      · rw [if_pos (c48.mpr b), if_pos b]
      · rw [if_neg (fun w => b (c48.mp w)), if_neg b]
    · rw [if_neg (fun w => a (c32.mp w))]
      by_cases b : gI u 7 (16 * ix q + ix f) &&& 48 = 0
      · rw [if_pos (c48'.mpr b), if_pos b]
      · rw [if_neg (fun w => b (c48'.mp w)), if_neg b]
  have y10' : y10 = if gI u 7 (16 * ix q + ix f) &&& 32 = 0 then x10 else (x10 ||| ((64 : Int64) <<< ((k * 8).toInt64 &&& 63))) := by
    rw [h10]
    by_cases a : gI u 7 (16 * ix q + ix f) &&& 32 = 0
    · rw [if_pos (c32.mpr a), if_pos a]
    · rw [if_neg (fun w => a (c32.mp w)), if_neg a]
  have n4 : ∀ j, j < 8 → own_ni y4 j = if j = 4 * ix q + ix f then (if gI u 7 (16 * ix q + ix f) &&& 48 = 0 then own_ni x4 j else 0) else own_ni x4 j := fun j hj => by
    rw [y4']
    by_cases b : gI u 7 (16 * ix q + ix f) &&& 48 = 0
    · rw [if_pos b, if_pos b]; split <;> rfl
    · rw [if_neg b, if_neg b, ek, own_ni_clr _ n8 hj]
  have b10 : ∀ j, j < 8 → own_by y10 j = if j = 4 * ix q + ix f then (if gI u 7 (16 * ix q + ix f) &&& 32 = 0 then own_by x10 j else own_by x10 j ||| 64) else own_by x10 j := fun j hj => by
    rw [y10']
    by_cases b : gI u 7 (16 * ix q + ix f) &&& 32 = 0
    · rw [if_pos b, if_pos b]; split <;> rfl
    · rw [if_neg b, if_neg b, ek, own_by_64 _ n8 hj]
  have en : n = Int32.ofNat (ix n) := own_i32 n hn.1
  have fb : ∀ j, 4 ≤ j → own_bt f j = false := fun j hj => by
    by_cases l : j < 32
    · have a := Jvm.Kit.i32_mask f 15 (k := 4) (by decide) (by decide)
      have p : ((2 : Int) ^ 4) = 16 := by decide
      have e : f &&& 15 = f := (i32_eq).mpr (by rw [a, p]; omega)
      have b := own_bt_and f 15 j
      rw [e, own_bt_15 j l] at b
      have : ¬ j < 4 := by omega
      rw [b]; simp [this]
    · exact own_bt_hi _ _ (by omega)
  have vb : ∀ j, 4 ≤ j → own_bt v j = false := by rw [ev]; exact own_pkb (by omega) (by omega) Sq
  have ni6 : ∀ j, j < 8 → own_ni (x6 ||| (f <<< ((n * 4) &&& 31))) j = if j = ix n then own_ni x6 j ||| f else own_ni x6 j := fun j hj => by
    have := own_ni_or x6 f (k := ix n) (n := j) (by omega) hj fb
    rw [← en] at this; exact this
  have ni7 : ∀ j, j < 8 → own_ni (x7 ||| (v <<< ((n * 4) &&& 31))) j = if j = ix n then own_ni x7 j ||| v else own_ni x7 j := fun j hj => by
    have := own_ni_or x7 v (k := ix n) (n := j) (by omega) hj vb
    rw [← en] at this; exact this
  refine ⟨own_H_slot H (q := ix q) (f := ix f) (by omega) (by omega) (fun c j a b d => by rw [cf c j (by omega), u1c c j b d]) (fun j hj ne => ⟨by rw [n4 j hj, if_neg ne], by rw [b10 j hj, if_neg ne]⟩) ?_, fun j hj => ?_, fun j hj h8 => ?_⟩
  · unfold own_sl
    have t6 : gI (own_con u1 (16 * ix q + ix f)) 6 (16 * ix q + ix f) = gI u 6 (16 * ix q + ix f) := by rw [cf 6 _ (by omega), u1c 6 _ (by decide) (by decide)]
    have t7 : gI (own_con u1 (16 * ix q + ix f)) 7 (16 * ix q + ix f) = gI u 7 (16 * ix q + ix f) := by rw [cf 7 _ (by omega)]; exact h7
    have op : own_op (own_con u1 (16 * ix q + ix f)) (ix f) = own_op u (ix f) := own_op_cg (fun j => by rw [cf 1 _ (by omega), u1c 1 _ (by decide) (by decide)]) (fun j => by rw [cf 2 _ (by omega), u1c 2 _ (by decide) (by decide)]) (ix f)
    rw [t6, t7, op, c8, c9, n4 _ n8, b10 _ n8, if_pos rfl, if_pos rfl, bb]
    refine ⟨?_, fun z => absurd z r, fun _ => ⟨so, sw, ?_⟩⟩
    · split
      · exact Sq.1
      · rfl
    · by_cases a : gI u 7 (16 * ix q + ix f) &&& 32 = 0
      · simp only [if_pos a]; rfl
      · simp only [if_neg a]; rw [b64]; rfl
  · rw [cf 10 _ (by omega), cf 11 _ (by omega), u110, u111, ni6 j (by omega), ni7 j (by omega)]
    by_cases e : j = ix n
    · have z := R2 j (by omega) (by omega)
      simp only [if_pos e]
      rw [z.1, z.2, own_or00, own_or00, ev, ← own_i32 f hf.1]
      exact ⟨rfl, rfl⟩
    · simp only [if_neg e]
      exact R1 j (by omega)
  · rw [ni6 j h8, ni7 j h8, if_neg (by omega), if_neg (by omega)]
    exact R2 j (by omega) h8

/-! the law's steps -/
abbrev own_g (N : Nat) (sg : Nat → Int32) (x12 : Int32) (y2 y3 y4 y5 y6 y7 : Int32) (y8 y10 : Int64) (a b : Int32) (t : St) : Prop := wplI PP QQ (some (N, sg)) 0 lm0 1126 [some (.ref 0), some (.ref 1), some (.int y2), some (.int y3), some (.int y4), some (.int y5), some (.int y6), some (.int y7), some (.long y8), none, some (.long y10), none, some (.int x12), none, none, none, none, none, none, none, some (.int a), some (.int b), none, none, none, none, none, none, none, none, none] [] (W1 t) (fun v _ => v = 1)
def own_nx (N : Nat) (sg : Nat → Int32) (x12 : Int32) : Prop := ∀ (y2 y3 y4 y5 y6 y7 : Int32) (y8 y10 : Int64) (v : Int32) (t : St), own_I y2 y3 y4 y5 y6 y7 y8 y10 t → own_g N sg x12 y2 y3 y4 y5 y6 y7 y8 y10 v v t
theorem own_eu_o {u : St} {o o' : Int32} {q f : Nat} (h : own_op u f ≠ 0 → o = o') : own_eu u o q f = own_eu u o' q f := by
  unfold own_eu
  by_cases c : own_op u f ≠ 0 ∧ gI u 6 (16 * q + f) ≠ 0 ∧ gI u 8 (16 * q + f) ≠ 0 ∧ gI u 7 (16 * q + f) &&& 16 ≠ 0
  · rw [if_pos c, if_pos c, h c.1]
  · rw [if_neg c, if_neg c]
theorem own_rqv {s : St} {fd : Int32} (h : 0 ≤ fd.toInt ∧ fd.toInt < 4) (o : own_op s (ix fd) ≠ 0) : own_rq s fd = own_ry s (ix fd) := by
  unfold own_rq own_oq
  rw [if_pos h, if_neg o]
theorem own_m3 (x : Int32) : x &&& 3 = 0 ↔ own_bt x 0 = false ∧ own_bt x 1 = false := by
  have k3 : ∀ j : Fin 32, own_bt 3 j.val = decide (j.val < 2) := by decide
  rw [own_bt_zero]
  constructor
  · intro h
    have h0 := h 0 (by decide)
    have h1 := h 1 (by decide)
    rw [own_bt_and, k3 ⟨0, by decide⟩] at h0
    rw [own_bt_and, k3 ⟨1, by decide⟩] at h1
    simp at h0 h1
    exact ⟨h0, h1⟩
  · intro ⟨h0, h1⟩ j hj
    rw [own_bt_and, k3 ⟨j, hj⟩]
    by_cases l : j < 2
    · have : j = 0 ∨ j = 1 := by omega
      rcases this with q | q
      · subst q; simp [h0]
      · subst q; simp [h1]
    · simp [l]
theorem own_m12 (x : Int32) : x &&& 12 = 0 ↔ own_bt x 2 = false ∧ own_bt x 3 = false := by
  have k3 : ∀ j : Fin 32, own_bt 12 j.val = decide (j.val = 2 ∨ j.val = 3) := by decide
  rw [own_bt_zero]
  constructor
  · intro h
    have h0 := h 2 (by decide)
    have h1 := h 3 (by decide)
    rw [own_bt_and, k3 ⟨2, by decide⟩] at h0
    rw [own_bt_and, k3 ⟨3, by decide⟩] at h1
    simp at h0 h1
    exact ⟨h0, h1⟩
  · intro ⟨h0, h1⟩ j hj
    rw [own_bt_and, k3 ⟨j, hj⟩]
    by_cases l : j = 2 ∨ j = 3
    · rcases l with q | q
      · subst q; simp [h0]
      · subst q; simp [h1]
    · simp [l]
theorem own_oz {s : St} {x2 : Int32} (O : own_oo s x2) {f : Nat} (hf : f < 4) : own_op s f = 0 ↔ own_bt x2 f = false := by
  rw [O f hf]
  cases own_bt x2 f <;> simp
/-- op 0 -/
theorem own_u0 (N : Nat) (sg : Nat → Int32) (x12 : Int32) (nx : own_nx N sg x12) {x2 x3 x4 x5 x6 x7 : Int32} {x8 x10 : Int64} (s : St) (I : own_I x2 x3 x4 x5 x6 x7 x8 x10 s) : calI PP 15 11 [.ref 0] s (fun v34 s33 => ∀ m36, m36 = (if (x2 &&& (3 : Int32)) = (0 : Int32) then (0 : Int32) else (if (x2 &&& (12 : Int32)) = (0 : Int32) then (1 : Int32) else (-8 : Int32))) → (∀ m39, m39 = (if m36 < (0 : Int32) then x2 else (x2 ||| ((3 : Int32) <<< (((2 : Int32) * m36) &&& 31)))) → ∀ m40, m40 = (if m36 < (0 : Int32) then x3 else (x3 &&& (((15 : Int32) <<< (((4 : Int32) * m36) &&& 31)) ^^^ (-1 : Int32)))) → ∀ m41, m41 = (if m36 < (0 : Int32) then x8 else (x8 &&& (((4294967295 : Int64) <<< ((((32 : Int32) * m36)).toInt64 &&& 63)) ^^^ (-1 : Int64)))) → own_g N sg x12 m39 m40 x4 x5 x6 x7 m41 x10 m36 v34 s33)) := by
  have O := I.2.1
  have o0 := own_oz O (f := 0) (by decide)
  have o1 := own_oz O (f := 1) (by decide)
  have o2 := own_oz O (f := 2) (by decide)
  have o3 := own_oz O (f := 3) (by decide)
  have p0 : own_op s 0 = gI s 1 0 := rfl
  have p1 : own_op s 1 = gI s 2 0 := rfl
  have p2 : own_op s 2 = gI s 1 1 := rfl
  have p3 : own_op s 3 = gI s 2 1 := rfl
  rw [p0] at o0; rw [p1] at o1; rw [p2] at o2; rw [p3] at o3
  refine own_k15 s I.1.1 _ (fun z1 z2 m36 h36 m39 h39 m40 h40 m41 h41 => ?_) (fun nn z1 z2 m36 h36 m39 h39 m40 h40 m41 h41 => ?_) (fun n0 n1 m36 h36 m39 h39 m40 h40 m41 h41 => ?_)
  · have e : m36 = 0 := by rw [h36, if_pos ((own_m3 x2).mpr ⟨o0.mp z1, o1.mp z2⟩)]
    subst e
    rw [if_neg (by decide)] at h39 h40 h41
    rw [h39, h40, h41]
    exact nx _ _ _ _ _ _ _ _ _ _ (own_I_n I 0 (by decide) z1 z2)
  · have e : m36 = 1 := by
      rw [h36, if_neg (fun w => nn ⟨o0.mpr ((own_m3 x2).mp w).1, o1.mpr ((own_m3 x2).mp w).2⟩), if_pos ((own_m12 x2).mpr ⟨o2.mp z1, o3.mp z2⟩)]
    subst e
    rw [if_neg (by decide)] at h39 h40 h41
    rw [h39, h40, h41]
    exact nx _ _ _ _ _ _ _ _ _ _ (own_I_n I 1 (by decide) z1 z2)
  · have e : m36 = -8 := by
      rw [h36, if_neg (fun w => n0 ⟨o0.mpr ((own_m3 x2).mp w).1, o1.mpr ((own_m3 x2).mp w).2⟩), if_neg (fun w => n1 ⟨o2.mpr ((own_m12 x2).mp w).1, o3.mpr ((own_m12 x2).mp w).2⟩)]
    subst e
    rw [if_pos (by decide)] at h39 h40 h41
    rw [h39, h40, h41]
    exact nx _ _ _ _ _ _ _ _ _ _ I
/-- edge after write or read -/
theorem own_ed (N : Nat) (sg : Nat → Int32) {y2 y3 x4 x5 x6 x7 : Int32} {y8 x10 : Int64} (s u t : St) (I : own_I y2 y3 x4 x5 x6 x7 y8 x10 u) (p : Int32) (hp : 0 ≤ p.toInt ∧ p.toInt < 2) (ops : ∀ f, f < 4 → own_op u f ≠ 0 → own_op s f ≠ 0) (U : own_up u t (ix p) (own_ry s (2 * ix p)) (own_ry s (2 * ix p + 1))) (Q : Int32 → Wd → Prop) (h : ∀ y4, own_I y2 y3 y4 x5 x6 x7 y8 x10 t → Q y4 (W1 t)) : lalI PP QQ (some (N, sg)) 5 [.long x10, .int x4, .int y2, .int y3, .int p, .int (own_rq s (2 * p)), .int (own_rq s (2 * p + 1))] (W1 t) Q := by
  have xp := ix_int hp.1
  have m2 : (2 * p).toInt = 2 * p.toInt := i32_mul (x := 2) (y := p) (by show (-2147483648 : Int) ≤ 2 * p.toInt; omega) (by show 2 * p.toInt < (2147483648 : Int); omega)
  have m3 : (2 * p + 1).toInt = 2 * p.toInt + 1 := by
    have := i32_add (x := 2 * p) (y := 1) (by show (-2147483648 : Int) ≤ (2 * p).toInt + 1; omega) (by show (2 * p).toInt + 1 < (2147483648 : Int); omega)
    rw [this, m2]; rfl
  have x2 := ix_int (i := 2 * p) (by omega)
  have x3 := ix_int (i := 2 * p + 1) (by omega)
  have i2 : ix (2 * p) = 2 * ix p := by omega
  have i3 : ix (2 * p + 1) = 2 * ix p + 1 := by omega
  refine own_l5 N sg u t I.1.1 I.1.2 I.2.1 I.2.2.1 I.2.2.2.1 p _ _ hp _ fun y4 hy => h y4 (own_I_9 I U.1 fun q f hq hf => ?_)
  rw [U.2 q f hq hf, hy q f hq hf]
  by_cases c : f / 2 = ix p
  · rw [if_pos c, if_pos c]
    refine own_eu_o fun o => ?_
    have os := ops f hf o
    by_cases e : f % 2 = 0
    · have ef : f = 2 * ix p := by omega
      rw [if_pos e, if_pos e, own_rqv (by omega) (by rw [i2, ← ef]; exact os), i2]
    · have ef : f = 2 * ix p + 1 := by omega
      rw [if_neg e, if_neg e, own_rqv (by omega) (by rw [i3, ← ef]; exact os), i3]
  · rw [if_neg c, if_neg c]
theorem own_p2 {fd p : Int32} (h : 0 ≤ fd.toInt ∧ fd.toInt < 4) (ep : p = fd >>> ((1 : Int32) &&& 31)) : (0 ≤ p.toInt ∧ p.toInt < 2) ∧ ix p = ix fd / 2 := by
  have a := own_sh1 fd
  rw [← ep] at a
  have b := ix_int h.1
  have c := ix_int (i := p) (by omega)
  exact ⟨by omega, by omega⟩
/-- op 1 -/
theorem own_u1 (N : Nat) (sg : Nat → Int32) (x12 : Int32) (nx : own_nx N sg x12) {x2 x3 x4 x5 x6 x7 : Int32} {x8 x10 : Int64} (s : St) (I : own_I x2 x3 x4 x5 x6 x7 x8 x10 s) (x18 x19 v x16 y0 m19 : Int32) (hf : 0 ≤ x18.toInt ∧ x18.toInt < 5) (ep : x19 = x18 >>> ((1 : Int32) &&& 31)) (ez : x16 = v &&& 255) (hy : y0 = 0 ↔ own_oq s x18 = 0) (hm : m19 = (if x19 < (2 : Int32) then ((x3 >>> ((x19 * (4 : Int32)) &&& 31)) &&& (15 : Int32)) else (0 : Int32))) :
    calI PP 16 11 [.ref 0, .int x18, .int v] s (fun v52 s51 => ((y0 = (0 : Int32)) → wplI PP QQ (some (N, sg)) 0 lm0 325 [some (.ref 0), some (.ref 1), some (.int x2), some (.int x3), some (.int x4), some (.int x5), some (.int x6), some (.int x7), some (.long x8), none, some (.long x10), none, some (.int x12), none, none, none, none, none, none, none, none, some (.int v52), none, none, none, none, none, none, none, none, none] [] (W1 s51) (fun v _ => v = 1)) ∧ (¬ (y0 = (0 : Int32)) → (((x18 &&& (1 : Int32)) = (0 : Int32)) → wplI PP QQ (some (N, sg)) 0 lm0 325 [some (.ref 0), some (.ref 1), some (.int x2), some (.int x3), some (.int x4), some (.int x5), some (.int x6), some (.int x7), some (.long x8), none, some (.long x10), none, some (.int x12), none, none, none, none, none, none, none, none, some (.int v52), none, none, none, none, none, none, none, none, none] [] (W1 s51) (fun v _ => v = 1)) ∧ (¬ ((x18 &&& (1 : Int32)) = (0 : Int32)) → ((((x2 >>> ((x18 - (1 : Int32)) &&& 31)) &&& (1 : Int32)) = (0 : Int32)) → own_g N sg x12 x2 x3 x4 x5 x6 x7 x8 x10 (-4 : Int32) v52 s51) ∧ (¬ (((x2 >>> ((x18 - (1 : Int32)) &&& 31)) &&& (1 : Int32)) = (0 : Int32)) → ((m19 = (4 : Int32)) → own_g N sg x12 x2 x3 x4 x5 x6 x7 x8 x10 (-2 : Int32) v52 s51) ∧ (¬ (m19 = (4 : Int32)) → lalI PP QQ (some (N, sg)) 5 [.long x10, .int x4, .int x2, .int (x3 + ((1 : Int32) <<< ((x19 * (4 : Int32)) &&& 31))), .int x19, .int (own_rq s (2 * x19)), .int (own_rq s (2 * x19 + 1))] (W1 s51) (fun v67 w66 => ∃ s69, w66 = W1 s69 ∧ (own_g N sg x12 x2 (x3 + ((1 : Int32) <<< ((x19 * (4 : Int32)) &&& 31))) v67 x5 x6 x7 (x8 ||| ((Int32.toInt64 x16) <<< ((((x19 * (32 : Int32)) + (m19 * (8 : Int32)))).toInt64 &&& 63))) x10 (0 : Int32) v52 s69))))))) := by
  have O := I.2.1
  have C := I.2.2.1
  have no : own_oq s x18 ≠ 0 → 0 ≤ x18.toInt ∧ x18.toInt < 4 := own_oqn
  have bit : (own_oq s x18 ≠ 0) → ¬ x18 &&& 1 = 0 → ((x2 >>> ((x18 - 1) &&& 31)) &&& 1 = 0 ↔ gI s 1 (ix x19) = 0) := fun a e => by
    have h := no a
    have xf := ix_int h.1
    have od := own_odd x18 h.1
    have ne : ¬ ix x18 % 2 = 0 := fun w => e (od.mpr w)
    have e1 : (x18 - 1).toInt = x18.toInt - 1 := by rw [i32_sub] <;> simp <;> omega
    have x1 := ix_int (i := x18 - 1) (by omega)
    rw [own_bt_shr x2 (x18 - 1) (by omega) (by omega), ← own_oz O (by omega)]
    have : own_op s (ix (x18 - 1)) = gI s 1 (ix x19) := by
      unfold own_op
      rw [if_pos (by omega), (own_p2 h ep).2]
      congr 1; omega
    rw [this]
  have cn : own_oq s x18 ≠ 0 → m19 = gI s 5 (ix x19) := fun a => by
    have hp := (own_p2 (no a) ep).1
    rw [hm, if_pos (by rw [own_lt2]; exact hp.2), own_cn C x19 hp]
  have cr : own_oq s x18 ≠ 0 → 0 ≤ (gI s 5 (ix x19)).toInt ∧ (gI s 5 (ix x19)).toInt ≤ 4 := fun a => by
    have hp := (own_p2 (no a) ep).1
    have xp := ix_int hp.1
    have : ix x19 = 0 ∨ ix x19 = 1 := by omega
    rcases this with q | q <;> rw [q]
    · exact C.1
    · exact C.2.1
  refine own_k16 s I x18 v x19 ep _ (fun a => ?_) (fun a e z => ?_) (fun a e z l => ?_) (fun a e z l t U => ?_)
  · have k := l0_325 N sg x2 x3 x4 x5 x6 x7 x8 x10 x12 (-1) _ (nx _ _ _ _ _ _ _ _ _ _ I)
    refine ⟨fun _ => k, fun y => ⟨fun _ => k, fun e => ?_⟩⟩
    rcases a with a | a
    · exact absurd (hy.mpr a) y
    · exact absurd a e
  · exact ⟨fun y => absurd (hy.mp y) a, fun _ => ⟨fun y => absurd y e, fun _ => ⟨fun _ => nx _ _ _ _ _ _ _ _ _ _ I, fun y => absurd ((bit a e).mpr z) y⟩⟩⟩
  · refine ⟨fun y => absurd (hy.mp y) a, fun _ => ⟨fun y => absurd y e, fun _ => ⟨fun y => absurd ((bit a e).mp y) z, fun _ => ⟨fun _ => nx _ _ _ _ _ _ _ _ _ _ I, fun y => absurd ?_ y⟩⟩⟩⟩
    rw [own_lt4] at l
    have := cr a
    rw [cn a]
    exact (i32_eq).mpr (by show _ = (4 : Int); omega)
  · have hp := (own_p2 (no a) ep).1
    rw [own_lt4] at l
    have hv := Jvm.Kit.i32_mask v 255 (k := 8) (by decide) (by decide)
    have pw : ((2 : Int) ^ 8) = 256 := by decide
    rw [pw] at hv
    refine ⟨fun y => absurd (hy.mp y) a, fun _ => ⟨fun y => absurd y e, fun _ => ⟨fun y => absurd ((bit a e).mp y) z, fun _ => ⟨fun y => ?_, fun _ => ?_⟩⟩⟩⟩
    · rw [cn a] at y
      rw [y] at l
      exact absurd l (by decide)
    · have Iw := own_I_w I x19 (v &&& 255) hp l ⟨by omega, by omega⟩ (x19 * 32 + m19 * 8) (by rw [cn a])
      refine own_ed N sg s _ t Iw x19 hp (fun f hf o => ?_) U _ fun y4 It => ⟨t, rfl, ?_⟩
      · rw [own_op_cg (s := s) (fun j => by rw [own_nc (by decide), own_nc (by decide)]) (fun j => by rw [own_nc (by decide), own_nc (by decide)])] at o
        exact o
      · rw [ez]; exact nx _ _ _ _ _ _ _ _ _ _ It

/-- op 2 -/
theorem own_u2 (N : Nat) (sg : Nat → Int32) (x12 : Int32) (nx : own_nx N sg x12) {x2 x3 x4 x5 x6 x7 : Int32} {x8 x10 : Int64} (s : St) (I : own_I x2 x3 x4 x5 x6 x7 x8 x10 s) (x18 x19 y0 m19 : Int32) (hf : 0 ≤ x18.toInt ∧ x18.toInt < 5) (ep : x19 = x18 >>> ((1 : Int32) &&& 31)) (hy : y0 = 0 ↔ own_oq s x18 = 0) (hm : m19 = (if x19 < (2 : Int32) then ((x3 >>> ((x19 * (4 : Int32)) &&& 31)) &&& (15 : Int32)) else (0 : Int32))) :
    calI PP 17 11 [.ref 0, .int x18] s (fun v74 s73 => ((y0 = (0 : Int32)) → wplI PP QQ (some (N, sg)) 0 lm0 438 [some (.ref 0), some (.ref 1), some (.int x2), some (.int x3), some (.int x4), some (.int x5), some (.int x6), some (.int x7), some (.long x8), none, some (.long x10), none, some (.int x12), none, none, none, none, none, none, none, none, some (.int v74), none, none, none, none, none, none, none, none, none] [] (W1 s73) (fun v _ => v = 1)) ∧ (¬ (y0 = (0 : Int32)) → (((x18 &&& (1 : Int32)) = (1 : Int32)) → wplI PP QQ (some (N, sg)) 0 lm0 438 [some (.ref 0), some (.ref 1), some (.int x2), some (.int x3), some (.int x4), some (.int x5), some (.int x6), some (.int x7), some (.long x8), none, some (.long x10), none, some (.int x12), none, none, none, none, none, none, none, none, some (.int v74), none, none, none, none, none, none, none, none, none] [] (W1 s73) (fun v _ => v = 1)) ∧ (¬ ((x18 &&& (1 : Int32)) = (1 : Int32)) → ((m19 = (0 : Int32)) → ∀ m85, m85 = (if ((x2 >>> ((x18 + (1 : Int32)) &&& 31)) &&& (1 : Int32)) = (0 : Int32) then (-3 : Int32) else (-2 : Int32)) → (own_g N sg x12 x2 x3 x4 x5 x6 x7 x8 x10 m85 v74 s73)) ∧ (¬ (m19 = (0 : Int32)) → lalI PP QQ (some (N, sg)) 5 [.long x10, .int x4, .int x2, .int (x3 - ((1 : Int32) <<< ((x19 * (4 : Int32)) &&& 31))), .int x19, .int (own_rq s (2 * x19)), .int (own_rq s (2 * x19 + 1))] (W1 s73) (fun v90 w89 => ∃ s92, w89 = W1 s92 ∧ (own_g N sg x12 x2 (x3 - ((1 : Int32) <<< ((x19 * (4 : Int32)) &&& 31))) v90 x5 x6 x7 ((x8 &&& (((4294967295 : Int64) <<< (((x19 * (32 : Int32))).toInt64 &&& 63)) ^^^ (-1 : Int64))) ||| ((Jvm.Free.XT.ushrL ((Jvm.Free.XT.ushrL x8 (x19 * (32 : Int32))) &&& (4294967295 : Int64)) (8 : Int32)) <<< (((x19 * (32 : Int32))).toInt64 &&& 63))) x10 (Int64.toInt32 (((Jvm.Free.XT.ushrL x8 (x19 * (32 : Int32))) &&& (4294967295 : Int64)) &&& (255 : Int64))) v74 s92)))))) := by
  have O := I.2.1
  have C := I.2.2.1
  have no : own_oq s x18 ≠ 0 → 0 ≤ x18.toInt ∧ x18.toInt < 4 := own_oqn
  have e01 : x18 &&& 1 = 0 ∨ x18 &&& 1 = 1 := by
    have m := Jvm.Kit.i32_mask x18 1 (k := 1) (by decide) (by decide)
    have p : ((2 : Int) ^ 1) = 2 := by decide
    rw [p] at m
    by_cases c : (x18 &&& 1).toInt = 0
    · exact Or.inl ((i32_eq).mpr c)
    · exact Or.inr ((i32_eq).mpr (by show _ = (1 : Int); omega))
  have bit : (own_oq s x18 ≠ 0) → x18 &&& 1 = 0 → ((x2 >>> ((x18 + 1) &&& 31)) &&& 1 = 0 ↔ gI s 2 (ix x19) = 0) := fun a e => by
    have h := no a
    have xf := ix_int h.1
    have ne := (own_odd x18 h.1).mp e
    have e1 : (x18 + 1).toInt = x18.toInt + 1 := by rw [i32_add] <;> simp <;> omega
    have x1 := ix_int (i := x18 + 1) (by omega)
    rw [own_bt_shr x2 (x18 + 1) (by omega) (by omega), ← own_oz O (by omega)]
    have : own_op s (ix (x18 + 1)) = gI s 2 (ix x19) := by
      unfold own_op
      rw [if_neg (by omega), (own_p2 h ep).2]
      congr 1; omega
    rw [this]
  have cn : own_oq s x18 ≠ 0 → m19 = gI s 5 (ix x19) := fun a => by
    have hp := (own_p2 (no a) ep).1
    rw [hm, if_pos (by rw [own_lt2]; exact hp.2), own_cn C x19 hp]
  refine own_k17 s I x18 x19 ep _ (fun a => ?_) (fun a e z y2 => ?_) (fun a e z y2 => ?_) (fun a e z t U => ?_)
  · have k := l0_438 N sg x2 x3 x4 x5 x6 x7 x8 x10 x12 (-1) _ (nx _ _ _ _ _ _ _ _ _ _ I)
    refine ⟨fun _ => k, fun y => ⟨fun _ => k, fun e => ?_⟩⟩
    rcases a with a | a
    · exact absurd (hy.mpr a) y
    · exact absurd (e01.resolve_right e) a
  · refine ⟨fun y => absurd (hy.mp y) a, fun _ => ⟨fun y => absurd y (by rw [e]; decide), fun _ => ⟨fun _ m85 h85 => ?_, fun y => absurd (by rw [cn a]; exact z) y⟩⟩⟩
    rw [if_pos ((bit a e).mpr y2)] at h85
    rw [h85]
    exact nx _ _ _ _ _ _ _ _ _ _ I
  · refine ⟨fun y => absurd (hy.mp y) a, fun _ => ⟨fun y => absurd y (by rw [e]; decide), fun _ => ⟨fun _ m85 h85 => ?_, fun y => absurd (by rw [cn a]; exact z) y⟩⟩⟩
    rw [if_neg (fun w => y2 ((bit a e).mp w))] at h85
    rw [h85]
    exact nx _ _ _ _ _ _ _ _ _ _ I
  · have hp := (own_p2 (no a) ep).1
    obtain ⟨Ir, er⟩ := own_I_r I x19 hp (fun w => z ((i32_eq).mpr w))
    refine ⟨fun y => absurd (hy.mp y) a, fun _ => ⟨fun y => absurd y (by rw [e]; decide), fun _ => ⟨fun y => absurd (by rw [← cn a]; exact y) z, fun _ => ?_⟩⟩⟩
    refine own_ed N sg s _ t Ir x19 hp (fun f hf o => ?_) U _ fun y4 It => ⟨t, rfl, ?_⟩
    · rw [own_op_cg (s := s) (fun j => by rw [own_nc (by decide), own_nc (by decide)]) (fun j => by rw [own_nc (by decide), own_nc (by decide)])] at o
      exact o
    · rw [er]; exact nx _ _ _ _ _ _ _ _ _ _ It
/-- op 3 -/
theorem own_u3 (N : Nat) (sg : Nat → Int32) (x12 : Int32) (nx : own_nx N sg x12) {x2 x3 x4 x5 x6 x7 : Int32} {x8 x10 : Int64} (s : St) (I : own_I x2 x3 x4 x5 x6 x7 x8 x10 s) (x18 x19 y0 : Int32) (ep : x19 = x18 >>> ((1 : Int32) &&& 31)) (hy : y0 = 0 ↔ own_oq s x18 = 0) :
    calI PP 18 11 [.ref 0, .int x18] s (fun v97 s96 => ((y0 = (0 : Int32)) → own_g N sg x12 x2 x3 x4 x5 x6 x7 x8 x10 (-1 : Int32) v97 s96) ∧ (¬ (y0 = (0 : Int32)) → lalI PP QQ (some (N, sg)) 5 [.long (x10 &&& ((((255 : Int64) <<< (((x18 * (8 : Int32))).toInt64 &&& 63)) ^^^ (-1 : Int64)) &&& (((255 : Int64) <<< ((((x18 + (4 : Int32)) * (8 : Int32))).toInt64 &&& 63)) ^^^ (-1 : Int64)))), .int (x4 &&& ((((15 : Int32) <<< ((x18 * (4 : Int32)) &&& 31)) ^^^ (-1 : Int32)) &&& (((15 : Int32) <<< (((x18 + (4 : Int32)) * (4 : Int32)) &&& 31)) ^^^ (-1 : Int32)))), .int (x2 &&& (((1 : Int32) <<< (x18 &&& 31)) ^^^ (-1 : Int32))), .int x3, .int x19, .int (own_rq s (2 * x19)), .int (own_rq s (2 * x19 + 1))] (W1 s96) (fun v103 w102 => ∃ s105, w102 = W1 s105 ∧ (own_g N sg x12 (x2 &&& (((1 : Int32) <<< (x18 &&& 31)) ^^^ (-1 : Int32))) x3 v103 x5 x6 x7 x8 (x10 &&& ((((255 : Int64) <<< (((x18 * (8 : Int32))).toInt64 &&& 63)) ^^^ (-1 : Int64)) &&& (((255 : Int64) <<< ((((x18 + (4 : Int32)) * (8 : Int32))).toInt64 &&& 63)) ^^^ (-1 : Int64)))) (0 : Int32) v97 s105)))) := by
  refine own_k18 s I.1.1 x18 _ (fun a => ⟨fun _ => nx _ _ _ _ _ _ _ _ _ _ I, fun y => absurd (hy.mpr a) y⟩) fun a u fr Bu op0 opn sn s0 t o ho tc t9 => ⟨fun y => absurd (hy.mp y) a, fun _ => ?_⟩
  have h := own_oqn a
  have xf := ix_int h.1
  obtain ⟨hp, ip⟩ := own_p2 h ep
  have Ic := own_I_c I x18 h fr Bu op0 opn sn s0
  obtain ⟨hx, x2', xn⟩ := own_xr x18 h
  have xx := ix_int hx.1
  have up : own_up u t (ix x19) (own_ry s (2 * ix x19)) (own_ry s (2 * ix x19 + 1)) := ⟨tc, fun q f hq hf => by
    rw [t9 q f hq hf]
    by_cases e : f = ix (x18 ^^^ 1)
    · rw [if_pos e, if_pos (by omega)]
      refine own_eu_o fun ou => ?_
      have os : own_op s f ≠ 0 := by
        rw [opn f hf (by omega)] at ou; exact ou
      rw [ho (by rw [← e]; exact os)]
      by_cases e2 : f % 2 = 0
      · rw [if_pos e2, ← e]; congr 1; omega
      · rw [if_neg e2, ← e]; congr 1; omega
    · rw [if_neg e]
      by_cases c : f / 2 = ix x19
      · rw [if_pos c]
        have : f = ix x18 := by omega
        unfold own_eu
        rw [if_neg (fun w => w.1 (by rw [this]; exact op0))]
      · rw [if_neg c]⟩
  refine own_ed N sg s u t Ic x19 hp (fun f hf ou => ?_) up _ fun y4 It => ⟨t, rfl, nx _ _ _ _ _ _ _ _ _ _ It⟩
  by_cases e : f = ix x18
  · subst e; exact absurd op0 ou
  · rw [opn f hf e] at ou; exact ou

/-- op 4, 5, 6 -/
theorem own_b8z {s : St} {x10 : Int64} {x4 : Int32} {q f : Int32} (hq : 0 ≤ q.toInt ∧ q.toInt < 2) (hf : 0 ≤ f.toInt ∧ f.toInt < 4) (S : own_sl s x10 x4 (ix q) (ix f)) : Jvm.Free.XT.cmpL (Jvm.Free.XT.ushrL x10 ((q * 4 + f) * 8) &&& 255) 0 = 0 ↔ gI s 6 (16 * ix q + ix f) = 0 := by
  have xq := ix_int hq.1
  have xf := ix_int hf.1
  obtain ⟨k1, -, -⟩ := own_kq hq hf
  have n8 : 4 * ix q + ix f < 8 := by omega
  have e : (255 : Int64) = Int32.toInt64 255 := by decide
  have a : own_by x10 (4 * ix q + ix f) &&& 255 = own_by x10 (4 * ix q + ix f) := own_bt_ext fun j hj => by
    have k : ∀ j : Fin 32, own_bt 255 j.val = decide (j.val < 8) := by decide
    rw [own_bt_and, own_by_bit _ n8 j hj, k ⟨j, hj⟩]
    by_cases l : j < 8 <;> simp [l]
  rw [own_cm0, k1, e, own_cby _ _ (by decide) n8, a]
  constructor
  · intro z
    exact Classical.byContradiction fun r => by
      have b := own_slb S r
      obtain ⟨b0, -⟩ := own_bbx (e := gI s 8 (16 * ix q + ix f)) (S.2.2 r).2.1
      rw [b] at z
      exact b0 z
  · exact S.2.1
theorem own_u4 (N : Nat) (sg : Nat → Int32) (x12 : Int32) (nx : own_nx N sg x12) {x2 x3 x4 x5 x6 x7 : Int32} {x8 x10 : Int64} (s : St) (I : own_I x2 x3 x4 x5 x6 x7 x8 x10 s) (x13 x17 x18 x22 y0 : Int32) (m118 : Int64) (h13 : x13 = 4 ∨ x13 = 5 ∨ x13 = 6) (hq : 0 ≤ x17.toInt ∧ x17.toInt < 3) (hf : 0 ≤ x18.toInt ∧ x18.toInt < 5) (hy : y0 = 0 ↔ own_oq s x18 = 0) (hm : m118 = (if x17 < (2 : Int32) then (if x18 < (4 : Int32) then ((Jvm.Free.XT.ushrL x10 (((x17 * (4 : Int32)) + x18) * (8 : Int32))) &&& (255 : Int64)) else (0 : Int64)) else (0 : Int64))) : wplI PP QQ (some (N, sg)) 0 lm0 712 [some (.ref 0), some (.ref 1), some (.int x2), some (.int x3), some (.int x4), some (.int x5), some (.int x6), some (.int x7), some (.long x8), none, some (.long x10), none, some (.int x12), some (.int x13), none, none, none, some (.int x17), some (.int x18), none, some (.int (0 : Int32)), none, some (.int x22), some (.int y0), none, none, none, some (.int ((x17 * (4 : Int32)) + x18)), none, none, none] [.long m118] (W1 s) (fun v _ => v = 1) := by
  obtain ⟨B, c4⟩ := I.1
  have O := I.2.1
  have C := I.2.2.1
  have S := I.2.2.2.1
  have xq := ix_int hq.1
  have xf := ix_int hf.1
  -- the ways out
  have o787 : wplI PP QQ (some (N, sg)) 0 lm0 787 [some (.ref 0), some (.ref 1), some (.int x2), some (.int x3), some (.int x4), some (.int x5), some (.int x6), some (.int x7), some (.long x8), none, some (.long x10), none, some (.int x12), none, none, none, none, none, none, none, none, some (.int (-6 : Int32)), none, none, none, none, none, none, none, none, none] [] (W1 s) (fun v _ => v = 1) := l0_787 _ _ _ _ _ _ _ _ _ _ _ _ _ (l0_939 _ _ _ _ _ _ _ _ _ _ _ _ _ _ (nx _ _ _ _ _ _ _ _ _ _ I))
  have o939 : ∀ v : Int32, wplI PP QQ (some (N, sg)) 0 lm0 939 [some (.ref 0), some (.ref 1), some (.int x2), some (.int x3), some (.int x4), some (.int x5), some (.int x6), some (.int x7), some (.long x8), none, some (.long x10), none, some (.int x12), none, none, none, none, none, none, none, some (.int v), some (.int v), none, none, none, none, none, none, none, none, none] [] (W1 s) (fun v _ => v = 1) := fun v => l0_939 _ _ _ _ _ _ _ _ _ _ _ _ _ _ (nx _ _ _ _ _ _ _ _ _ _ I)
  have z766 : ∀ v t, (¬ x17 < 2 ∨ (x13 ≠ 6 ∧ ¬ x22 &&& (-52) = 0) → v = -6 ∧ t = s) → (x17 < 2 → (x13 = 6 ∨ x22 &&& (-52) = 0) → wplI PP QQ (some (N, sg)) 0 lm0 794 [some (.ref 0), some (.ref 1), some (.int x2), some (.int x3), some (.int x4), some (.int x5), some (.int x6), some (.int x7), some (.long x8), none, some (.long x10), none, some (.int x12), some (.int x13), none, none, none, none, some (.int x18), none, some (.int (0 : Int32)), some (.int v), some (.int x22), some (.int y0), none, none, none, some (.int ((x17 * (4 : Int32)) + x18)), some (.long m118), none, none] [] (W1 t) (fun v _ => v = 1)) → wplI PP QQ (some (N, sg)) 0 lm0 766 [some (.ref 0), some (.ref 1), some (.int x2), some (.int x3), some (.int x4), some (.int x5), some (.int x6), some (.int x7), some (.long x8), none, some (.long x10), none, some (.int x12), some (.int x13), none, none, none, some (.int x17), some (.int x18), none, some (.int (0 : Int32)), some (.int v), some (.int x22), some (.int y0), none, none, none, some (.int ((x17 * (4 : Int32)) + x18)), some (.long m118), none, none] [] (W1 t) (fun v _ => v = 1) := fun v t hbad hok => by
    refine l0_766 _ _ _ _ _ _ _ _ _ _ _ _ _ _ _ _ _ _ _ _ _ ⟨fun q2 => ⟨fun e6 => hok q2 (Or.inl e6), fun e6 => ⟨fun w => hok q2 (Or.inr w), fun w => ?_⟩⟩, fun q2 => ?_⟩
    · obtain ⟨e1, e2⟩ := hbad (Or.inr ⟨e6, w⟩)
      subst e1; subst e2; exact o787
    · obtain ⟨e1, e2⟩ := hbad (Or.inl q2)
      subst e1; subst e2; exact o787
  have hq2 : x17 < 2 ↔ (0 ≤ x17.toInt ∧ x17.toInt < 2) := by rw [own_lt2]; omega
  have bad : ∀ v, x17 < 2 → own_oq s x18 = 0 → v = -1 → wplI PP QQ (some (N, sg)) 0 lm0 794 [some (.ref 0), some (.ref 1), some (.int x2), some (.int x3), some (.int x4), some (.int x5), some (.int x6), some (.int x7), some (.long x8), none, some (.long x10), none, some (.int x12), some (.int x13), none, none, none, none, some (.int x18), none, some (.int (0 : Int32)), some (.int v), some (.int x22), some (.int y0), none, none, none, some (.int ((x17 * (4 : Int32)) + x18)), some (.long m118), none, none] [] (W1 s) (fun v _ => v = 1) := fun v q2 a ev => by
    subst ev
    exact l0_794 _ _ _ _ _ _ _ _ _ _ _ _ _ _ _ _ _ _ _ _ ⟨fun _ => o939 _, fun y => absurd (hy.mpr a) y⟩
  have bz : x17 < 2 → own_oq s x18 ≠ 0 → (Jvm.Free.XT.cmpL m118 0 = 0 ↔ gI s 6 (16 * ix x17 + ix x18) = 0) := fun q2 a => by
    have h := own_oqn a
    rw [hm, if_pos q2, if_pos (by rw [own_lt4]; exact h.2)]
    exact own_b8z (hq2.mp q2) h (S _ _ (by have := hq2.mp q2; omega) (by omega))
  have opx : own_oq s x18 ≠ 0 → own_op s (ix x18) ≠ 0 := fun a => by
    have h := own_oqn a
    unfold own_oq at a
    rw [if_pos h] at a; exact a
  have arm : ∀ t, x13 ≠ 6 → x17 < 2 → own_oq s x18 ≠ 0 → x22 &&& (-52) = 0 → own_ar s t (ix x17) (ix x18) x22 → wplI PP QQ (some (N, sg)) 0 lm0 845 [some (.ref 0), some (.ref 1), some (.int x2), some (.int x3), some (.int x4), some (.int x5), some (.int x6), some (.int x7), some (.long x8), none, some (.long x10), none, some (.int x12), some (.int x13), none, none, none, none, some (.int x18), none, some (.int (0 : Int32)), some (.int (0 : Int32)), some (.int x22), none, none, none, none, some (.int ((x17 * (4 : Int32)) + x18)), none, none, none] [] (W1 t) (fun v _ => v = 1) := fun t n6 q2 a w ar => by
    have h := own_oqn a
    have hq' := hq2.mp q2
    have ek := (own_kq hq' h).1
    obtain ⟨fr, t6, t7, t8, t9⟩ := ar
    refine l0_845 _ _ _ _ _ _ _ _ _ _ _ _ _ _ _ _ _ _ ⟨fun e6 => absurd e6 n6, fun _ => ⟨fun z16 => l0_931 _ _ _ _ _ _ _ _ _ _ _ _ _ _ _ _ (l0_939 _ _ _ _ _ _ _ _ _ _ _ _ _ _ (nx _ _ _ _ _ _ _ _ _ _ ?_)), fun z16 => own_l3 N sg s t B c4 O C x18 _ ⟨t, rfl, l0_931 _ _ _ _ _ _ _ _ _ _ _ _ _ _ _ _ (l0_939 _ _ _ _ _ _ _ _ _ _ _ _ _ _ (nx _ _ _ _ _ _ _ _ _ _ ?_))⟩⟩⟩
    · exact own_I_a I _ x22 0 (by omega) (by omega) ek (opx a) w (fun j _ => own_bt_0 j) fr t6 t7 t8 (by rw [t9, if_pos z16])
    · have rq := own_rqv h (opx a)
      have wa : (x22 &&& 3) ||| 12 = own_wa x22 := by
        unfold own_wa
        apply own_bt_ext
        intro j hj
        have k : ∀ j : Fin 32, own_bt 12 j.val = (own_bt 4 j.val || own_bt 8 j.val) := by decide
        rw [own_bt_orr, own_bt_orr, own_bt_orr, k ⟨j, hj⟩, Bool.or_assoc]
      rw [rq, wa]
      exact own_I_a I _ x22 _ (by omega) (by omega) ek (opx a) w (fun j hj => by rw [own_bt_and, (own_ry0 s _).2 j hj]; rfl) fr t6 t7 t8 (by rw [t9, if_neg z16])
  rcases h13 with e | e | e
  · -- add
    have n6 : x13 ≠ 6 := by rw [e]; decide
    refine l0_712 _ _ _ _ _ _ _ _ _ _ _ _ _ _ _ _ _ _ _ _ ⟨fun _ => own_k19 s B x17 x18 x22 _ (fun hb => z766 _ _ (fun _ => ⟨rfl, rfl⟩) fun q2 w => ?_) (fun hq w a => z766 _ _ (fun hb => ?_) fun q2 _ => bad _ q2 a rfl) (fun hq w a r => z766 _ _ (fun hb => ?_) fun q2 _ => ?_) (fun hq w a r t ar => z766 _ _ (fun hb => ?_) fun q2 _ => ?_), fun n => absurd e n⟩
    · rcases hb with hb | hb
      · exact absurd (hq2.mp q2) hb
      · exact absurd (w.resolve_left n6) hb
    · exact absurd hb (fun q => q.elim (fun z => z (hq2.mpr hq)) fun z => z.2 w)
    · exact absurd hb (fun q => q.elim (fun z => z (hq2.mpr hq)) fun z => z.2 w)
    · exact l0_794 _ _ _ _ _ _ _ _ _ _ _ _ _ _ _ _ _ _ _ _ ⟨fun y => absurd (hy.mp y) a, fun _ => ⟨fun _ => ⟨fun c => absurd ((bz q2 a).mp c) r, fun _ => o939 _⟩, fun n => absurd e n⟩⟩
    · exact absurd hb (fun q => q.elim (fun z => z (hq2.mpr hq)) fun z => z.2 w)
    · exact l0_794 _ _ _ _ _ _ _ _ _ _ _ _ _ _ _ _ _ _ _ _ ⟨fun y => absurd (hy.mp y) a, fun _ => ⟨fun _ => ⟨fun _ => l0_825 _ _ _ _ _ _ _ _ _ _ _ _ _ _ _ _ _ _ _ ⟨fun _ => arm t n6 q2 a w ar, fun n => absurd e n⟩, fun c => absurd ((bz q2 a).mpr r) c⟩, fun n => absurd e n⟩⟩
  · -- mod
    have n6 : x13 ≠ 6 := by rw [e]; decide
    have n4 : x13 ≠ 4 := by rw [e]; decide
    refine l0_712 _ _ _ _ _ _ _ _ _ _ _ _ _ _ _ _ _ _ _ _ ⟨fun n => absurd n n4, fun _ => ⟨fun _ => own_k20 s B x17 x18 x22 _ (fun hb => z766 _ _ (fun _ => ⟨rfl, rfl⟩) fun q2 w => ?_) (fun hq w a => z766 _ _ (fun hb => ?_) fun q2 _ => bad _ q2 a rfl) (fun hq w a r => z766 _ _ (fun hb => ?_) fun q2 _ => ?_) (fun hq w a r t ar => z766 _ _ (fun hb => ?_) fun q2 _ => ?_), fun n => absurd e n⟩⟩
    · rcases hb with hb | hb
      · exact absurd (hq2.mp q2) hb
      · exact absurd (w.resolve_left n6) hb
    · exact absurd hb (fun q => q.elim (fun z => z (hq2.mpr hq)) fun z => z.2 w)
    · exact absurd hb (fun q => q.elim (fun z => z (hq2.mpr hq)) fun z => z.2 w)
    · exact l0_794 _ _ _ _ _ _ _ _ _ _ _ _ _ _ _ _ _ _ _ _ ⟨fun y => absurd (hy.mp y) a, fun _ => ⟨fun n => absurd n n4, fun _ => l0_825 _ _ _ _ _ _ _ _ _ _ _ _ _ _ _ _ _ _ _ ⟨fun n => absurd n n4, fun _ => ⟨fun _ => o939 _, fun c => absurd ((bz q2 a).mpr r) c⟩⟩⟩⟩
    · exact absurd hb (fun q => q.elim (fun z => z (hq2.mpr hq)) fun z => z.2 w)
    · exact l0_794 _ _ _ _ _ _ _ _ _ _ _ _ _ _ _ _ _ _ _ _ ⟨fun y => absurd (hy.mp y) a, fun _ => ⟨fun n => absurd n n4, fun _ => l0_825 _ _ _ _ _ _ _ _ _ _ _ _ _ _ _ _ _ _ _ ⟨fun n => absurd n n4, fun _ => ⟨fun c => absurd ((bz q2 a).mp c) r, fun _ => arm t n6 q2 a w ar⟩⟩⟩⟩
  · -- del
    have n4 : x13 ≠ 4 := by rw [e]; decide
    have n5 : x13 ≠ 5 := by rw [e]; decide
    refine l0_712 _ _ _ _ _ _ _ _ _ _ _ _ _ _ _ _ _ _ _ _ ⟨fun n => absurd n n4, fun _ => ⟨fun n => absurd n n5, fun _ => own_k21 s B x17 x18 _ (fun hb => z766 _ _ (fun _ => ⟨rfl, rfl⟩) fun q2 w => absurd (hq2.mp q2) hb) (fun hq a => z766 _ _ (fun hb => ?_) fun q2 _ => bad _ q2 a rfl) (fun hq a r => z766 _ _ (fun hb => ?_) fun q2 _ => ?_) (fun hq a r t fr t6 t9 => z766 _ _ (fun hb => ?_) fun q2 _ => ?_)⟩⟩
    · exact absurd hb (fun q => q.elim (fun z => z (hq2.mpr hq)) fun z => z.1 e)
    · exact absurd hb (fun q => q.elim (fun z => z (hq2.mpr hq)) fun z => z.1 e)
    · exact l0_794 _ _ _ _ _ _ _ _ _ _ _ _ _ _ _ _ _ _ _ _ ⟨fun y => absurd (hy.mp y) a, fun _ => ⟨fun n => absurd n n4, fun _ => l0_825 _ _ _ _ _ _ _ _ _ _ _ _ _ _ _ _ _ _ _ ⟨fun n => absurd n n4, fun _ => ⟨fun _ => o939 _, fun c => absurd ((bz q2 a).mpr r) c⟩⟩⟩⟩
    · exact absurd hb (fun q => q.elim (fun z => z (hq2.mpr hq)) fun z => z.1 e)
    · have h := own_oqn a
      exact l0_794 _ _ _ _ _ _ _ _ _ _ _ _ _ _ _ _ _ _ _ _ ⟨fun y => absurd (hy.mp y) a, fun _ => ⟨fun n => absurd n n4, fun _ => l0_825 _ _ _ _ _ _ _ _ _ _ _ _ _ _ _ _ _ _ _ ⟨fun n => absurd n n4, fun _ => ⟨fun c => absurd ((bz q2 a).mp c) r, fun _ => l0_845 _ _ _ _ _ _ _ _ _ _ _ _ _ _ _ _ _ _ ⟨fun _ => l0_939 _ _ _ _ _ _ _ _ _ _ _ _ _ _ (nx _ _ _ _ _ _ _ _ _ _ (own_I_d I _ (by omega) (by omega) (own_kq (hq2.mp q2) h).1 fr t6 t9)), fun n => absurd e n⟩⟩⟩⟩⟩

/-- the law's loop over the ends -/
theorem own_lw (N : Nat) (sg : Nat → Int32) (x12 : Int32) (nx : own_nx N sg x12) {x2 x3 x4 x5 x6 x7 : Int32} {x8 x10 : Int64} (s : St) (I : own_I x2 x3 x4 x5 x6 x7 x8 x10 s) (q m : Int32) (hq : 0 ≤ q.toInt ∧ q.toInt < 2) (hm : 1 ≤ m.toInt ∧ m.toInt ≤ 7) : wplI PP QQ (some (N, sg)) 0 lm0 987 [some (.ref 0), some (.ref 1), some (.int x2), some (.int x3), some (.int x4), none, some (.int (0 : Int32)), some (.int (0 : Int32)), some (.long x8), none, some (.long x10), none, some (.int x12), none, none, none, none, some (.int q), none, none, some (.int (0 : Int32)), some (.int (own_wu s (ix q) m.toInt 4).2), none, none, none, none, none, some (.int m), some (.int (0 : Int32)), none, none] [] (W1 (sI (own_wu s (ix q) m.toInt 4).1 0 31 (own_wu s (ix q) m.toInt 4).2)) (fun v _ => v = 1) := by
  have xq := ix_int hq.1
  have ni0 : ∀ j, j < 8 → own_ni 0 j = 0 := fun j hj => own_bt_ext fun k hk => by rw [own_ni_bit _ hj k hk, own_bt_0, own_bt_0]; rfl
  have fin : ∀ (y4 y6 y7 : Int32) (y10 : Int64), own_J x2 x3 y4 y6 y7 x8 y10 (own_wu s (ix q) m.toInt 4).1 (own_wu s (ix q) m.toInt 4).2 → wplI PP QQ (some (N, sg)) 0 lm0 1122 [some (.ref 0), some (.ref 1), some (.int x2), some (.int x3), some (.int y4), none, some (.int y6), some (.int y7), some (.long x8), none, some (.long y10), none, some (.int x12), none, none, none, none, none, none, none, some (.int (own_wu s (ix q) m.toInt 4).2), some (.int (own_wu s (ix q) m.toInt 4).2), none, none, none, none, none, none, none, none, none] [] (W1 (sI (own_wu s (ix q) m.toInt 4).1 0 31 (own_wu s (ix q) m.toInt 4).2)) (fun v _ => v = 1) := fun y4 y6 y7 y10 J => by
    have nr := own_wu_r s (ix q) m.toInt 4 (by omega)
    refine l0_1122 _ _ _ _ _ _ _ _ _ _ _ _ _ (nx _ _ _ _ _ _ _ _ _ _ ?_)
    obtain ⟨⟨⟨B, c4⟩, O, C, S, D⟩, R1, R2⟩ := J
    have fr : ∀ c j, ¬ (c = 0 ∧ j = 31) → gI (sI (own_wu s (ix q) m.toInt 4).1 0 31 (own_wu s (ix q) m.toInt 4).2) c j = gI (own_wu s (ix q) m.toInt 4).1 c j := fun c j h => own_ne h
    have op : ∀ f, own_op (sI (own_wu s (ix q) m.toInt 4).1 0 31 (own_wu s (ix q) m.toInt 4).2) f = own_op (own_wu s (ix q) m.toInt 4).1 f := own_op_cg (fun j => own_nc (by decide)) (fun j => own_nc (by decide))
    obtain ⟨b1, b2, b3, b4⟩ := B
    refine ⟨⟨⟨by rw [fr 0 17 (by decide)]; exact b1, by rw [fr 0 19 (by decide)]; exact b2, by rw [fr 0 18 (by decide)]; exact b3, fun p hp => by rw [own_nc (by decide), own_nc (by decide)]; exact b4 p hp⟩, by rw [fr 0 18 (by decide)]; exact c4⟩, fun f hf => by rw [op]; exact O f hf, ?_, fun q f hq hf => own_sl_cg (S q f hq hf) (op f) (fun c a b => own_nc (by omega)), fun p hp => own_dt_cg (D p hp) (own_nc (by decide)) (own_nc (by decide)) (fun j _ => own_nc (by decide)), own_eq.symm, by omega, fun j hj => ?_⟩
    · unfold own_cc
      rw [own_nc (by decide), own_nc (by decide)]; exact C
    · rw [own_nc (by decide), own_nc (by decide)]; exact R1 j hj
  generalize ht : sI (own_wu s (ix q) m.toInt 4).1 0 31 (own_wu s (ix q) m.toInt 4).2 = t at fin ⊢
  refine loop_up (F := fun i => ∀ (y4 y6 y7 : Int32) (y10 : Int64), own_J x2 x3 y4 y6 y7 x8 y10 (own_wu s (ix q) m.toInt (ix i)).1 (own_wu s (ix q) m.toInt (ix i)).2 → wplI PP QQ (some (N, sg)) 0 lm0 987 [some (.ref 0), some (.ref 1), some (.int x2), some (.int x3), some (.int y4), none, some (.int y6), some (.int y7), some (.long x8), none, some (.long y10), none, some (.int x12), none, none, none, none, some (.int q), none, none, some (.int (own_wu s (ix q) m.toInt (ix i)).2), some (.int (own_wu s (ix q) m.toInt 4).2), none, none, none, none, none, some (.int m), some (.int i), none, none] [] (W1 t) (fun v _ => v = 1)) 4 (by decide) (fun i i0 i1 e ih y4 y6 y7 y10 J => ?_) (fun i hi y4 y6 y7 y10 J => ?_) 0 (by decide) (by decide) x4 0 0 x10 ⟨own_IH I, fun j hj => absurd hj (by show ¬ j < 0; omega), fun j _ h8 => ⟨ni0 j h8, ni0 j h8⟩⟩
  · have xi := ix_int i0
    have xj := ix_int (i := i + 1) (by omega)
    have x1 : ix (i + 1) = ix i + 1 := by omega
    rw [x1] at ih
    have hf : 0 ≤ i.toInt ∧ i.toInt < 4 := ⟨i0, i1⟩
    obtain ⟨k1, k2, k3⟩ := own_kq hq hf
    have nr := own_wu_r s (ix q) m.toInt (ix i) (by omega)
    obtain ⟨H, R1, R2⟩ := id J
    obtain ⟨⟨B, c4⟩, O, C, S, D⟩ := id H
    have ev := own_pq_ev (q := ix q) (f := ix i) (by omega) (by omega) (S _ _ (by omega) (by omega))
    have evp : own_ev (own_wu s (ix q) m.toInt (ix i)).1 (ix q) (ix i) = true ↔ (gI (own_wu s (ix q) m.toInt (ix i)).1 6 (16 * ix q + ix i) ≠ 0 ∧ own_pk (own_wu s (ix q) m.toInt (ix i)).1 (16 * ix q + ix i) (ix i) ≠ 0) := by
      unfold own_ev
      simp
    refine l0_987 _ _ _ _ _ _ _ _ _ _ _ _ _ _ _ _ ⟨fun _ => ⟨fun lt => own_l4 N sg _ t B c4 O C S _ k2 _ ⟨t, rfl, ?_⟩, fun nl => ?_⟩, fun z => absurd (by rw [own_lt4]; exact i1) z⟩
    · rw [i32_lt] at lt
      rw [k3]
      intro m144 h144 m145 h145 m146 h146 m147 h147 m148 h148
      by_cases c : (0 : Int32) < own_pq (own_wu s (ix q) m.toInt (ix i)).1 (4 * ix q + ix i)
      · rw [if_pos c] at h144 h145 h146 h147 h148
        have c2 := evp.mp (ev.mp c)
        rw [own_wu_y ⟨lt, c2.1, c2.2⟩] at ih
        have epq : own_pq (own_wu s (ix q) m.toInt (ix i)).1 (4 * ix q + ix i) = own_pk (own_wu s (ix q) m.toInt (ix i)).1 (16 * ix q + ix i) (ix i) := by
          unfold own_pq
          have a1 : (4 * ix q + ix i) / 4 = ix q := by omega
          have a2 : (4 * ix q + ix i) % 4 = ix i := by omega
          rw [a1, a2, if_neg c2.1]
        have := ih m144 m145 m146 m147 (by
          rw [h145, h146]
          exact own_J_s J ⟨nr.1, by omega⟩ q i hq hf c2.1 (q * 4 + i) rfl _ epq m144 m147 h144 h147)
        rw [h148]
        exact this
      · rw [if_neg c] at h144 h145 h146 h147 h148
        rw [own_wu_n (fun w => c (ev.mpr (evp.mpr ⟨w.2.1, w.2.2⟩)))] at ih
        rw [h144, h145, h146, h147, h148]
        exact ih _ _ _ _ J
    · have e4 := own_wu_stop s (ix q) m.toInt (f := ix i) (by rw [i32_lt] at nl; exact nl) 4 (by omega)
      rw [← e4] at J ⊢
      exact fin _ _ _ _ J
  · have xi := ix_int (i := i) (by omega)
    have i4 : ix i = 4 := by omega
    rw [i4] at J ⊢
    exact l0_987 _ _ _ _ _ _ _ _ _ _ _ _ _ _ _ _ ⟨fun z => absurd z (by rw [own_lt4]; omega), fun _ => fin _ _ _ _ J⟩
theorem own_md (x : Int32) : 0 ≤ (x &&& 255).toInt ∧ (x &&& 255).toInt < 256 := by
  have m := Jvm.Kit.i32_mask x 255 (k := 8) (by decide) (by decide)
  have p : ((2 : Int) ^ 8) = 256 := by decide
  rw [m, p]; omega
theorem own_m7 (x : Int32) : 0 ≤ (x &&& 7).toInt ∧ (x &&& 7).toInt < 8 := by
  have m := Jvm.Kit.i32_mask x 7 (k := 3) (by decide) (by decide)
  have p : ((2 : Int) ^ 3) = 8 := by decide
  rw [m, p]; omega
theorem own_r3 {x : Int32} (h : 0 ≤ x.toInt ∧ x.toInt < 256) : (0 ≤ (x % 3).toInt ∧ (x % 3).toInt < 3) ∧ (0 ≤ (x % 5).toInt ∧ (x % 5).toInt < 5) := by
  have a : (x % 3).toInt = x.toInt.tmod 3 := Int32.toInt_mod x 3
  have b : (x % 5).toInt = x.toInt.tmod 5 := Int32.toInt_mod x 5
  rw [Int.tmod_eq_emod_of_nonneg h.1] at a b
  rw [a, b]
  omega
theorem own_gt6 {x : Int32} : (6 : Int32) < x ↔ 6 < x.toInt := i32_lt
theorem own_clamp (x lo hi : Int32) (s : St) (Q : Int32 → St → Prop) (h : Q (if x < lo then lo else if hi < x then hi else x) s) : calI PP 2 11 [.ref 0, .int x, .int lo, .int hi] s Q := by
  apply c2_in
  refine ⟨fun a => ?_, fun a => ⟨fun b => ?_, fun b => ?_⟩⟩
  · rw [if_pos a] at h; exact h
  · rw [if_neg a, if_pos b] at h; exact h
  · rw [if_neg a, if_neg b] at h; exact h
theorem own_start : own_I 0 0 0 0 0 0 0 0 (sI (sI (sI (sI s0 0 17 2) 0 18 4) 0 19 2) 0 31 0) := by
  have z : ∀ c j, c ≠ 0 → gI (sI (sI (sI (sI s0 0 17 2) 0 18 4) 0 19 2) 0 31 0) c j = 0 := fun c j h => by
    rw [own_nc h, own_nc h, own_nc h, own_nc h]; rfl
  have g17 : gI (sI (sI (sI (sI s0 0 17 2) 0 18 4) 0 19 2) 0 31 0) 0 17 = 2 := by simp [gI_sI]
  have g18 : gI (sI (sI (sI (sI s0 0 17 2) 0 18 4) 0 19 2) 0 31 0) 0 18 = 4 := by simp [gI_sI]
  have g19 : gI (sI (sI (sI (sI s0 0 17 2) 0 18 4) 0 19 2) 0 31 0) 0 19 = 2 := by simp [gI_sI]
  have g31 : gI (sI (sI (sI (sI s0 0 17 2) 0 18 4) 0 19 2) 0 31 0) 0 31 = 0 := by simp [gI_sI]
  generalize sI (sI (sI (sI s0 0 17 2) 0 18 4) 0 19 2) 0 31 0 = t at *
  have op : ∀ f, own_op t f = 0 := fun f => by unfold own_op; rw [z 1 _ (by decide), z 2 _ (by decide)]; split <;> rfl
  have ni0 : ∀ j, j < 8 → own_ni 0 j = 0 := fun j hj => own_bt_ext fun k hk => by rw [own_ni_bit _ hj k hk, own_bt_0, own_bt_0]; rfl
  have by0 : ∀ j, j < 8 → own_by 0 j = 0 := fun j hj => own_bt_ext fun k hk => by
    rw [own_by_bit _ hj k hk, own_bt_0]
    have : own_bl 0 (8 * j + k) = false := by simp [own_bl]
    rw [this]; rfl
  refine ⟨⟨⟨g17, g19, by rw [g18]; decide, fun p _ => ⟨Or.inl (z 1 p (by decide)), Or.inl (z 2 p (by decide))⟩⟩, g18⟩, fun f _ => by rw [op f, own_bt_0]; rfl, ?_, fun q f hq hf => ?_, fun p hp => ?_, g31.symm, by decide, fun j hj => absurd hj (by show ¬ j < 0; omega)⟩
  · unfold own_cc
    rw [z 5 _ (by decide), z 5 _ (by decide)]; decide
  · unfold own_sl
    rw [z 6 _ (by decide), z 9 _ (by decide), ni0 _ (by omega), by0 _ (by omega)]
    exact ⟨rfl, fun _ => rfl, fun w => absurd rfl w⟩
  · unfold own_dt
    rw [z 4 _ (by decide), z 5 _ (by decide)]
    exact ⟨by decide, fun k hk => by rw [by0 _ (by omega), if_neg (by show ¬ k < 0; omega)]⟩
theorem law_ok (N : Nat) (sg : Nat → Int32) (hN : (N : Int) ≤ (260 : Int32).toInt) : lalI PP QQ (some (N, sg)) 0 [.ref 0] W0 (fun v _ => v = 1) := by
  have e260 : (260 : Int32).toInt = 260 := by decide
  have eN : (Int32.ofNat N).toInt = N := Int32.toInt_ofNat_of_lt (by omega)
  have key : ∀ (n : Nat) (i x2 x3 x4 x5 x6 x7 : Int32) (x8 x10 : Int64) (s : St), 0 ≤ i.toInt → i.toInt + n = N + 4 → own_I x2 x3 x4 x5 x6 x7 x8 x10 s → wplI PP QQ (some (N, sg)) 0 lm0 36 [some (.ref 0), some (.ref 1), some (.int x2), some (.int x3), some (.int x4), some (.int x5), some (.int x6), some (.int x7), some (.long x8), none, some (.long x10), none, some (.int i), none, none, none, none, none, none, none, none, none, none, none, none, none, none, none, none, none, none] [] (W1 s) (fun v _ => v = 1) := by
    intro n
    induction n using Nat.strongRecOn with
    | _ n ih =>
    intro i x2 x3 x4 x5 x6 x7 x8 x10 s i0 hn I
    have e1 : (i + 1).toInt = i.toInt + 1 := by rw [i32_add] <;> simp <;> omega
    have e2 : (i + 2).toInt = i.toInt + 2 := by rw [i32_add] <;> simp <;> omega
    have e3 : (i + 3).toInt = i.toInt + 3 := by rw [i32_add] <;> simp <;> omega
    have e4 : (i + 4).toInt = i.toInt + 4 := by rw [i32_add] <;> simp <;> omega
    refine l0_36 _ _ _ _ _ _ _ _ _ _ _ _ ⟨fun a => ?_, fun _ => rfl⟩
    rw [i32_lt, eN, e3] at a
    have b3 : inb N (i + 3) := ⟨by omega, by omega⟩
    have nx : own_nx N sg i := fun y2 y3 y4 y5 y6 y7 y8 y10 v t It => l0_1126 _ _ _ _ _ _ _ _ _ _ _ _ _ _ ⟨fun _ => own_chk N sg t It _ ⟨t, rfl, fun q => absurd q (by decide), fun _ => ih (n - 4) (by omega) (i + 4) y2 y3 y4 y5 y6 y7 y8 y10 t (by omega) (by omega) It⟩, fun q => absurd rfl q⟩
    refine ⟨⟨by omega, by omega⟩, ⟨by omega, by omega⟩, ⟨by omega, by omega⟩, b3, fun m10 _ m13 h13 => ?_⟩
    obtain ⟨B, c4⟩ := I.1
    have O := I.2.1
    have C := I.2.2.1
    have h7 := own_m7 (sg (ix i))
    have hq := (own_r3 (own_md (sg (ix (i + 1))))).1
    have hf := (own_r3 (own_md (sg (ix (i + 2))))).2
    have hy7 := own_m7 (sg (ix (i + 2)) &&& 255)
    generalize sg (ix i) &&& (7 : Int32) = op at h7 ⊢
    generalize (sg (ix (i + (1 : Int32))) &&& (255 : Int32)) % (3 : Int32) = q at hq ⊢
    generalize (sg (ix (i + (2 : Int32))) &&& (255 : Int32)) % (5 : Int32) = fd at hf h13 ⊢
    generalize sg (ix (i + (2 : Int32))) &&& (255 : Int32) = yy at hy7 ⊢
    generalize (((sg (ix (i + (3 : Int32))) &&& (255 : Int32)) &&& (3 : Int32)) ||| (((sg (ix (i + (3 : Int32))) &&& (255 : Int32)) &&& (12 : Int32)) <<< ((2 : Int32) &&& 31))) ||| m10 = w
    have hy : m13 = 0 ↔ own_oq s fd = 0 := by
      rw [h13]
      unfold own_oq
      by_cases l : fd < 4
      · have l' := l
        rw [own_lt4] at l'
        have xf := ix_int hf.1
        have cc : 0 ≤ fd.toInt ∧ fd.toInt < 4 := ⟨hf.1, l'⟩
        rw [if_pos l, if_pos cc, own_oz O (f := ix fd) (by omega)]
        have hb := own_bt_shr x2 fd hf.1 (by omega)
        by_cases c : (x2 >>> (fd &&& 31)) &&& 1 = 0
        · rw [if_pos c]; exact ⟨fun _ => hb.mp c, fun _ => rfl⟩
        · rw [if_neg c]; exact ⟨fun w => absurd w (by decide), fun w => absurd (hb.mpr w) c⟩
      · have l' := l
        rw [own_lt4] at l'
        have cc : ¬ (0 ≤ fd.toInt ∧ fd.toInt < 4) := fun w => l' w.2
        rw [if_neg l, if_neg cc]
    apply l0_163
    intro m19 h19
    refine own_l3 N sg s s B c4 O C _ _ ⟨s, rfl, own_l3 N sg s s B c4 O C _ _ ⟨s, rfl, ?_⟩⟩
    refine ⟨fun _ => own_u0 N sg i nx s I, fun n0 => ⟨fun _ => ⟨b3, own_u1 N sg i nx s I fd _ _ _ m13 m19 hf rfl rfl hy h19⟩, fun n1 => ⟨fun _ => own_u2 N sg i nx s I fd _ m13 m19 hf rfl hy h19, fun n2 => ⟨fun _ => own_u3 N sg i nx s I fd _ m13 rfl hy, fun n3 => ⟨fun g => ?_, fun g m118 h118 => ?_⟩⟩⟩⟩⟩
    · have o971 : wplI PP QQ (some (N, sg)) 0 lm0 971 [some (.ref 0), some (.ref 1), some (.int x2), some (.int x3), some (.int x4), some (.int x5), some (.int x6), some (.int x7), some (.long x8), none, some (.long x10), none, some (.int i), none, none, none, none, none, none, none, none, some (.int (-6 : Int32)), none, none, none, none, none, none, none, none, none] [] (W1 s) (fun v _ => v = 1) := l0_971 _ _ _ _ _ _ _ _ _ _ _ _ _ (nx _ _ _ _ _ _ _ _ _ _ I)
      refine own_k22 s B q _ (by omega) _ (fun hb => ⟨fun q2 => ⟨fun _ => o971, fun m1 => ?_⟩, fun _ => o971⟩) fun hq' hm' => ⟨fun q2 => ⟨fun m1 => absurd m1 (by rw [own_lt1]; omega), fun _ => own_lw N sg i nx s I q _ hq' ⟨hm', by omega⟩⟩, fun q2 => absurd (by rw [own_lt2]; exact hq'.2) q2⟩
      rw [own_lt2] at q2
      rw [own_lt1] at m1
      rcases hb with hb | hb
      · exact absurd ⟨hq.1, q2⟩ hb
      · omega
    · refine own_u4 N sg i nx s I op q fd w m13 m118 ?_ hq hf hy h118
      have z0 : op.toInt ≠ 0 := fun w => n0 ((i32_eq).mpr w)
      have z1 : op.toInt ≠ 1 := fun w => n1 ((i32_eq).mpr w)
      have z2 : op.toInt ≠ 2 := fun w => n2 ((i32_eq).mpr w)
      have z3 : op.toInt ≠ 3 := fun w => n3 ((i32_eq).mpr w)
      rw [own_gt6] at g
      have c : op.toInt = 4 ∨ op.toInt = 5 ∨ op.toInt = 6 := by omega
      rcases c with c | c | c
      · exact Or.inl ((i32_eq).mpr c)
      · exact Or.inr (Or.inl ((i32_eq).mpr c))
      · exact Or.inr (Or.inr ((i32_eq).mpr c))
  apply l0_in
  have ct : ∀ Q : St → Prop, Q (sI (sI (sI (sI s0 0 17 2) 0 18 4) 0 19 2) 0 31 0) → calV PP 0 0 [.ref 0, .int (2 : Int32), .int (4 : Int32), .int (2 : Int32)] s0 Q := by
    intro Q hq
    apply c0_in
    apply own_clamp
    apply own_clamp
    apply own_clamp
    exact hq
  exact ct _ (key (N + 4) 0 0 0 0 0 0 0 0 0 _ (by decide) (by show (0 : Int) + _ = _; omega) own_start)
theorem comes_1 {Post : Tables → Env → Array Value → State → Outcome → State → Prop} (hpost : ∀ tb e args s v u, (limb_1_1.after args s (.returned v) u = true ∧ limb_1_2.after args s (.returned v) u = true ∧ True) → FrameEnd s (.returned v) u (Jvm.fieldLocs frame_1_writes args s ++ Jvm.arrayLocs frame_1_arrays args s ++ Jvm.staticLocs frame_1_statics s) 32 1024 → Post tb e args s (.returned v) u) :
    ArmFor flags0 classFile x code maxLocals ret World_1 tables_1 room_1 Calls_1 rest_1 Pre_1 Post := by
  intro l hfl _ _ p e ha hc hk s m args below hf hA hF happ hP
  obtain ⟨hcalls, hrest, hpre⟩ := hP
  obtain ⟨-, -, -, hnamed, -, -, -, hat⟩ := (Spec.applies_iff hf).mp happ
  obtain ⟨hg, hn⟩ := and_e (Cond.before_iff.mp (show (Jvm.Cond.and given_1 narrow_1).before args s = true from hpre))
  obtain ⟨h1, g0⟩ := and_e hg
  obtain ⟨w0, rfl⟩ : ∃ w0 : Value, args = #[w0] := by
    have hs : args.size = 1 := by simpa [Cond.value, given_1] using h1
    obtain ⟨L⟩ := args
    match L, hs with
    | [w0], _ => exact ⟨w0, rfl⟩
  have hw := fun d (hd : d ∈ tables_1) => atoms_spec (ws := Jvm.Cond.code x code maxLocals ret :: tables_1) hat d (List.mem_cons_of_mem _ hd)
  have hfit : Fit s := fun {y c} hc i hi => by
    obtain ⟨ha, rfl⟩ := Array.getElem?_eq_some_iff.mp hc
    have q := List.all_eq_true.mp ((Array.all_eq_true_iff_forall_mem.mp hF) _ (Array.getElem_mem ha)) i (List.mem_range.mpr hi)
    simpa [Array.getElem?_eq_getElem hi] using q
  obtain ⟨hn1, hn2⟩ := and_e hn
  obtain ⟨a, ea⟩ := arr_v hn1
  obtain rfl : w0 = .ref a := Option.some.inj ea
  obtain ⟨cl, A⟩ := Arr.start ea hn1
  obtain ⟨⟨-, hN⟩, hS⟩ := script_of hfit A ea hn2
  obtain ⟨f, w0, hr⟩ := law_run (law_ok cl.slots.size (fun i => match cl.slots[i]? with | some (.int x) => x | _ => 0) hN) (me := lm0) rfl
  have M : MetFree l x (head1 (Jvm.Cond.code x code maxLocals ret :: tables_1) room_1) (fun b U => b = #[.ref a] ∧ s.Warmed39 U.vm ∧ U.heap = s.heap) (fun _ _ _ _ _ => True) (fun _ U o U' => ∃ u L, o = .returned u ∧ (u = some (.int 1) ∧ Fr s.heap.size L) ∧ FrameEnd U o U' L 32 1024) :=
    law_met (lkC s _ hw) (lkL s _ hw) (sc := some (cl.slots.size, fun i => match cl.slots[i]? with | some (.int x) => x | _ => 0)) (a := a) (me := lm0) rfl l (bytes := code) (chk_ok dk_l0) (as := [.ref 0]) rfl (Nat.le_of_ble_eq_true rfl) hr hS
  obtain ⟨n, o, h1, h2, h3, _, L, rfl, ⟨rfl, N⟩, hq⟩ := M p e ha hc hk s m _ below hf ((Spec.applies_iff_loose hf).mp happ).1 ⟨rfl, State.Warmed39.refl s, rfl⟩ trivial
  refine ⟨n, _, h1, h2, h3, hpost _ _ _ _ _ _ ⟨Cond.after_iff.mpr rfl, Cond.after_iff.mpr (eq_i res_at (Term.int_eval (1)) rfl), trivial⟩ ⟨hq.1, hq.2.1, (hq.2.2.sift fun y hy => Or.inr (N y hy)).mono (by decide) (by decide)⟩⟩
theorem main_1_1 : Claimed_1_1 := comes_1 fun _ _ _ _ _ _ h hF => ⟨h.1, hF⟩
theorem main_1_2 : Claimed_1_2 := comes_1 fun _ _ _ _ _ _ h hF => ⟨h.2.1, hF⟩
end Jvm.Pilot.@@N@@
namespace Jvm.Pilot.@@N@@
open Jvm Jvm.ClassFile Sem Op Lib Jvm.Free Jvm.Stand Jvm.Pilot.@@N@@.Jvm.D
/-! MADE BY PROGRAM (witnessworld.py) out of the Statement's table words and the real class files: 11 classes; the members and pool entries that the words name. The judged class is class 1, her method 1. -/
namespace start1
open Jvm.ClassFile
def u (s : String) : CpInfo := .utf8 (stringToUtf16 s)
/-- a pool by its gaps: so many unusable entries, then the entry; so many at the end -/
def gap : Nat → List CpInfo → List CpInfo
  | 0, r => r
  | n + 1, r => .unusable :: gap n r
def poolList (es : List (Nat × CpInfo)) (last : Nat) : List CpInfo := es.foldr (fun e r => gap e.1 (e.2 :: r)) (gap last [])
def pool (es : List (Nat × CpInfo)) (last : Nat) : Array CpInfo := ⟨poolList es last⟩
def fileOf (pool : Array CpInfo) (this : Nat) (attrs : Array Attribute := #[]) (ms : Array MethodInfo := #[]) (fl : Nat := 33) (sup : Nat := 0) (ifs : Array Nat := #[]) (fds : Array FieldInfo := #[]) : ClassFile where
  minorVersion := 0
  majorVersion := 65
  constantPool := pool
  accessFlags := fl
  thisClass := this
  superClass := sup
  interfaces := ifs
  fields := fds
  methods := ms
  attributes := attrs
def plain (name : String) (sup : Option ClassId) : Class where
  name := name
  kind := .ordinary
  loader := none
  accessFlags := 33
  super := sup
  interfaces := #[]
  cf := none
  fields := #[]
  methods := #[]
  instanceTypes := #[]
  staticTypes := #[]
  resolved := #[]
  callSites := []
  init := .initialized
  statics := none
  mirror := none

def pool0 : Array CpInfo := pool [(5, u "<init>"), (0, u "()V"), (1, .class_ 10), (1, u "java/lang/Object")] 113

def k0c0 : Code := { maxStack := 0, maxLocals := 1, code := object_method_1_code, exceptionTable := #[], attributes := #[] }
def k0m0 : Method := { name := "<init>", desc := "()V", sig := { parameters := [], returnType := none }, accessFlags := 1, code := some k0c0 }
/-- java/lang/Object -/
def k0 : Class := { plain "java/lang/Object" none with
  accessFlags := 33
  interfaces := #[]
  cf := some (fileOf pool0 8 #[] #[{ accessFlags := 1, nameIndex := 5, descriptorIndex := 6, attributes := #[] }] 33 0 #[] #[])
  fields := #[]
  methods := #[k0m0]
  instanceTypes := #[]
  staticTypes := #[]
  resolved := Array.replicate 124 none
  statics := none }

def pool1 : Array CpInfo := pool [(2, .class_ 4), (1, u "java/lang/Object"), (0, u "<init>"), (0, u "()V"), (0, .class_ 8), (0, u "ReadinessPoller"), (0, .methodref 7 10), (0, .nameAndType 5 11), (0, u "(III)V"), (0, .methodref 13 14), (0, .class_ 15), (0, .nameAndType 16 17), (0, u "ReadinessPollerL6"), (0, u "rd"), (0, u "(III)I"), (0, .methodref 7 19), (0, .nameAndType 20 21), (0, u "createPipe"), (0, u "()I"), (0, .long 4294967295), (1, .long 18446744073709551615), (1, .methodref 7 27), (0, .nameAndType 28 29), (0, u "write"), (0, u "(II)I"), (0, .methodref 13 31), (0, .nameAndType 32 33), (0, u "edge"), (0, u "(JIIIIII)I"), (0, .methodref 7 35), (0, .nameAndType 36 37), (0, u "read"), (0, u "(I)I"), (0, .long 255), (1, .methodref 7 41), (0, .nameAndType 42 37), (0, u "closeFd"), (0, .methodref 7 44), (0, .nameAndType 45 17), (0, u "ctlAdd"), (0, .methodref 7 47), (0, .nameAndType 48 17), (0, u "ctlMod"), (0, .methodref 7 50), (0, .nameAndType 51 29), (0, u "ctlDel"), (0, .methodref 7 53), (0, .nameAndType 54 29), (0, u "wait"), (0, .methodref 13 56), (0, .nameAndType 57 58), (0, u "peek"), (0, u "(JIIII)I"), (0, .long 32), (1, .long 64), (1, .long 48), (1, .methodref 13 66), (0, .nameAndType 67 68), (0, u "check"), (0, u "(LReadinessPoller;IIJIIII)Z"), (0, .methodref 7 70), (0, .nameAndType 71 37), (0, u "pipeBytes"), (0, .methodref 7 73), (0, .nameAndType 74 37), (0, u "fdReadiness"), (0, .methodref 7 76), (0, .nameAndType 77 29), (0, u "regInfo"), (0, .methodref 7 79), (0, .nameAndType 80 29), (0, u "peekReady"), (0, .methodref 7 82), (0, .nameAndType 83 37), (0, u "readyCount"), (0, .methodref 7 85), (0, .nameAndType 86 37), (0, u "eventFd"), (0, .methodref 7 88), (0, .nameAndType 89 37), (0, u "eventMask"), (2, u "law"), (0, u "([I)Z")] 5

def k1m0 : Method := { name := "<init>", desc := "()V", sig := { parameters := [], returnType := none }, accessFlags := 1, code := none }
def k1c1 : Code := { maxStack := 9, maxLocals := 31, code := code, exceptionTable := #[], attributes := #[] }
def k1m1 : Method := { name := "law", desc := "([I)Z", sig := { parameters := [(.array .int)], returnType := some .boolean }, accessFlags := 9, code := some k1c1 }
def k1c2 : Code := { maxStack := 3, maxLocals := 5, code := method_3_code, exceptionTable := #[], attributes := #[] }
def k1m2 : Method := { name := "rd", desc := "(III)I", sig := { parameters := [.int, .int, .int], returnType := some .int }, accessFlags := 10, code := some k1c2 }
def k1c3 : Code := { maxStack := 4, maxLocals := 7, code := method_4_code, exceptionTable := #[], attributes := #[] }
def k1m3 : Method := { name := "peek", desc := "(JIIII)I", sig := { parameters := [.long, .int, .int, .int, .int], returnType := some .int }, accessFlags := 10, code := some k1c3 }
def k1c4 : Code := { maxStack := 4, maxLocals := 15, code := method_5_code, exceptionTable := #[], attributes := #[] }
def k1m4 : Method := { name := "edge", desc := "(JIIIIII)I", sig := { parameters := [.long, .int, .int, .int, .int, .int, .int], returnType := some .int }, accessFlags := 10, code := some k1c4 }
def k1c5 : Code := { maxStack := 6, maxLocals := 14, code := method_6_code, exceptionTable := #[], attributes := #[] }
def k1m5 : Method := { name := "check", desc := "(LReadinessPoller;IIJIIII)Z", sig := { parameters := [(.object "ReadinessPoller"), .int, .int, .long, .int, .int, .int, .int], returnType := some .boolean }, accessFlags := 10, code := some k1c5 }
/-- ReadinessPollerL6 -/
def k1 : Class := { plain "ReadinessPollerL6" (some 0) with
  accessFlags := 49
  interfaces := #[]
  cf := some (fileOf pool1 13 #[] #[{ accessFlags := 1, nameIndex := 5, descriptorIndex := 6, attributes := #[] }, { accessFlags := 9, nameIndex := 92, descriptorIndex := 93, attributes := #[] }, { accessFlags := 10, nameIndex := 16, descriptorIndex := 17, attributes := #[] }, { accessFlags := 10, nameIndex := 57, descriptorIndex := 58, attributes := #[] }, { accessFlags := 10, nameIndex := 32, descriptorIndex := 33, attributes := #[] }, { accessFlags := 10, nameIndex := 67, descriptorIndex := 68, attributes := #[] }] 49 2 #[] #[])
  fields := #[]
  methods := #[k1m0, k1m1, k1m2, k1m3, k1m4, k1m5]
  instanceTypes := #[]
  staticTypes := #[]
  resolved := Array.replicate 99 none
  statics := none }

def pool2 : Array CpInfo := pool [(1, .methodref 2 3), (0, .class_ 4), (0, .nameAndType 5 6), (0, u "java/lang/Object"), (0, u "<init>"), (0, u "()V"), (0, .fieldref 8 9), (0, .class_ 10), (0, .nameAndType 11 12), (0, u "ReadinessPoller"), (0, u "readOpen"), (0, u "[Z"), (0, .fieldref 8 14), (0, .nameAndType 15 12), (0, u "writeOpen"), (0, .fieldref 8 17), (0, .nameAndType 18 19), (0, u "buf"), (0, u "[I"), (0, .fieldref 8 21), (0, .nameAndType 22 19), (0, u "head"), (0, .fieldref 8 24), (0, .nameAndType 25 19), (0, u "count"), (0, .fieldref 8 27), (0, .nameAndType 28 12), (0, u "regged"), (0, .fieldref 8 30), (0, .nameAndType 31 19), (0, u "word"), (0, .fieldref 8 33), (0, .nameAndType 34 12), (0, u "enabled"), (0, .fieldref 8 36), (0, .nameAndType 37 19), (0, u "pend"), (0, .fieldref 8 39), (0, .nameAndType 40 19), (0, u "resFd"), (0, .fieldref 8 42), (0, .nameAndType 43 19), (0, u "resMask"), (0, .methodref 8 45), (0, .nameAndType 46 47), (0, u "clamp"), (0, u "(III)I"), (0, .fieldref 8 49), (0, .nameAndType 50 51), (0, u "nPipes"), (0, u "I"), (0, .fieldref 8 53), (0, .nameAndType 54 51), (0, u "cap"), (0, .fieldref 8 56), (0, .nameAndType 57 51), (0, u "nPolls"), (0, .fieldref 8 59), (0, .nameAndType 60 51), (0, u "resN"), (0, .methodref 8 62), (0, .nameAndType 63 64), (0, u "rawReady"), (0, u "(I)I"), (0, .methodref 8 66), (0, .nameAndType 67 64), (0, u "watched"), (0, .methodref 8 69), (0, .nameAndType 70 71), (0, u "slot"), (0, u "(II)I"), (0, .methodref 8 73), (0, .nameAndType 74 75), (0, u "clearReg"), (0, u "(I)V"), (0, .methodref 8 77), (0, .nameAndType 78 79), (0, u "isOpen"), (0, u "(I)Z"), (0, .methodref 8 81), (0, .nameAndType 82 79), (0, u "validQ"), (0, .methodref 8 84), (0, .nameAndType 85 86), (0, u "edgeUpdate"), (0, u "(II)V"), (0, .methodref 8 88), (0, .nameAndType 89 75), (0, u "removeRegs"), (0, .methodref 8 91), (0, .nameAndType 92 79), (0, u "validWord"), (0, .methodref 8 94), (0, .nameAndType 95 96), (0, u "arm"), (0, u "(III)V"), (0, .methodref 8 98), (0, .nameAndType 99 71), (0, u "peek"), (0, .methodref 8 101), (0, .nameAndType 102 75), (0, u "consume"), (0, .methodref 8 104), (0, .nameAndType 105 71), (0, u "lookup"), (0, u "IN"), (2, u "OUT"), (1, u "HUP"), (1, u "ERR"), (1, u "EDGE"), (1, u "ONESHOT"), (1, u "DISABLED"), (1, u "OK"), (1, u "ERR_BADF"), (1, u "ERR_AGAIN"), (1, u "EOF"), (1, u "ERR_PIPE"), (1, u "ERR_EXIST"), (1, u "ERR_INVAL"), (1, u "ERR_NOENT"), (1, u "ERR_NOPIPE"), (4, u "createPipe"), (0, u "()I"), (0, u "write"), (0, u "read"), (0, u "closeFd"), (0, u "ctlAdd"), (0, u "ctlMod"), (0, u "ctlDel"), (0, u "wait"), (0, u "eventFd"), (0, u "eventMask"), (0, u "pipeBytes"), (0, u "fdReadiness"), (0, u "regInfo"), (0, u "peekReady"), (0, u "readyCount")] 2

def k2c0 : Code := { maxStack := 5, maxLocals := 4, code := prog_1_method_1_code, exceptionTable := #[], attributes := #[] }
def k2m0 : Method := { name := "<init>", desc := "(III)V", sig := { parameters := [.int, .int, .int], returnType := none }, accessFlags := 1, code := some k2c0 }
def k2c1 : Code := { maxStack := 2, maxLocals := 4, code := prog_1_method_2_code, exceptionTable := #[], attributes := #[] }
def k2m1 : Method := { name := "clamp", desc := "(III)I", sig := { parameters := [.int, .int, .int], returnType := some .int }, accessFlags := 2, code := some k2c1 }
def k2c2 : Code := { maxStack := 3, maxLocals := 3, code := prog_1_method_3_code, exceptionTable := #[], attributes := #[] }
def k2m2 : Method := { name := "isOpen", desc := "(I)Z", sig := { parameters := [.int], returnType := some .boolean }, accessFlags := 2, code := some k2c2 }
def k2c3 : Code := { maxStack := 2, maxLocals := 4, code := prog_1_method_4_code, exceptionTable := #[], attributes := #[] }
def k2m3 : Method := { name := "rawReady", desc := "(I)I", sig := { parameters := [.int], returnType := some .int }, accessFlags := 2, code := some k2c3 }
def k2c4 : Code := { maxStack := 2, maxLocals := 2, code := prog_1_method_5_code, exceptionTable := #[], attributes := #[] }
def k2m4 : Method := { name := "watched", desc := "(I)I", sig := { parameters := [.int], returnType := some .int }, accessFlags := 2, code := some k2c4 }
def k2c5 : Code := { maxStack := 2, maxLocals := 2, code := prog_1_method_6_code, exceptionTable := #[], attributes := #[] }
def k2m5 : Method := { name := "validQ", desc := "(I)Z", sig := { parameters := [.int], returnType := some .boolean }, accessFlags := 2, code := some k2c5 }
def k2c6 : Code := { maxStack := 2, maxLocals := 2, code := prog_1_method_7_code, exceptionTable := #[], attributes := #[] }
def k2m6 : Method := { name := "validWord", desc := "(I)Z", sig := { parameters := [.int], returnType := some .boolean }, accessFlags := 2, code := some k2c6 }
def k2c7 : Code := { maxStack := 2, maxLocals := 3, code := prog_1_method_8_code, exceptionTable := #[], attributes := #[] }
def k2m7 : Method := { name := "slot", desc := "(II)I", sig := { parameters := [.int, .int], returnType := some .int }, accessFlags := 2, code := some k2c7 }
def k2c8 : Code := { maxStack := 4, maxLocals := 3, code := prog_1_method_9_code, exceptionTable := #[], attributes := #[] }
def k2m8 : Method := { name := "peek", desc := "(II)I", sig := { parameters := [.int, .int], returnType := some .int }, accessFlags := 2, code := some k2c8 }
def k2c9 : Code := { maxStack := 5, maxLocals := 4, code := prog_1_method_10_code, exceptionTable := #[], attributes := #[] }
def k2m9 : Method := { name := "arm", desc := "(III)V", sig := { parameters := [.int, .int, .int], returnType := none }, accessFlags := 2, code := some k2c9 }
def k2c10 : Code := { maxStack := 3, maxLocals := 2, code := prog_1_method_11_code, exceptionTable := #[], attributes := #[] }
def k2m10 : Method := { name := "clearReg", desc := "(I)V", sig := { parameters := [.int], returnType := none }, accessFlags := 2, code := some k2c10 }
def k2c11 : Code := { maxStack := 4, maxLocals := 3, code := prog_1_method_12_code, exceptionTable := #[], attributes := #[] }
def k2m11 : Method := { name := "removeRegs", desc := "(I)V", sig := { parameters := [.int], returnType := none }, accessFlags := 2, code := some k2c11 }
def k2c12 : Code := { maxStack := 6, maxLocals := 7, code := prog_1_method_13_code, exceptionTable := #[], attributes := #[] }
def k2m12 : Method := { name := "edgeUpdate", desc := "(II)V", sig := { parameters := [.int, .int], returnType := none }, accessFlags := 2, code := some k2c12 }
def k2c13 : Code := { maxStack := 3, maxLocals := 4, code := prog_1_method_14_code, exceptionTable := #[], attributes := #[] }
def k2m13 : Method := { name := "lookup", desc := "(II)I", sig := { parameters := [.int, .int], returnType := some .int }, accessFlags := 2, code := some k2c13 }
def k2c14 : Code := { maxStack := 3, maxLocals := 2, code := prog_1_method_15_code, exceptionTable := #[], attributes := #[] }
def k2m14 : Method := { name := "createPipe", desc := "()I", sig := { parameters := [], returnType := some .int }, accessFlags := 1, code := some k2c14 }
def k2c15 : Code := { maxStack := 4, maxLocals := 7, code := prog_1_method_16_code, exceptionTable := #[], attributes := #[] }
def k2m15 : Method := { name := "write", desc := "(II)I", sig := { parameters := [.int, .int], returnType := some .int }, accessFlags := 1, code := some k2c15 }
def k2c16 : Code := { maxStack := 4, maxLocals := 6, code := prog_1_method_17_code, exceptionTable := #[], attributes := #[] }
def k2m16 : Method := { name := "read", desc := "(I)I", sig := { parameters := [.int], returnType := some .int }, accessFlags := 1, code := some k2c16 }
def k2c17 : Code := { maxStack := 3, maxLocals := 5, code := prog_1_method_18_code, exceptionTable := #[], attributes := #[] }
def k2m17 : Method := { name := "closeFd", desc := "(I)I", sig := { parameters := [.int], returnType := some .int }, accessFlags := 1, code := some k2c17 }
def k2c18 : Code := { maxStack := 4, maxLocals := 5, code := prog_1_method_19_code, exceptionTable := #[], attributes := #[] }
def k2m18 : Method := { name := "ctlAdd", desc := "(III)I", sig := { parameters := [.int, .int, .int], returnType := some .int }, accessFlags := 1, code := some k2c18 }
def k2c19 : Code := { maxStack := 4, maxLocals := 5, code := prog_1_method_20_code, exceptionTable := #[], attributes := #[] }
def k2m19 : Method := { name := "ctlMod", desc := "(III)I", sig := { parameters := [.int, .int, .int], returnType := some .int }, accessFlags := 1, code := some k2c19 }
def k2c20 : Code := { maxStack := 3, maxLocals := 4, code := prog_1_method_21_code, exceptionTable := #[], attributes := #[] }
def k2m20 : Method := { name := "ctlDel", desc := "(II)I", sig := { parameters := [.int, .int], returnType := some .int }, accessFlags := 1, code := some k2c20 }
def k2c21 : Code := { maxStack := 3, maxLocals := 9, code := prog_1_method_22_code, exceptionTable := #[], attributes := #[] }
def k2m21 : Method := { name := "wait", desc := "(II)I", sig := { parameters := [.int, .int], returnType := some .int }, accessFlags := 1, code := some k2c21 }
def k2c22 : Code := { maxStack := 3, maxLocals := 2, code := prog_1_method_23_code, exceptionTable := #[], attributes := #[] }
def k2m22 : Method := { name := "consume", desc := "(I)V", sig := { parameters := [.int], returnType := none }, accessFlags := 2, code := some k2c22 }
def k2c23 : Code := { maxStack := 2, maxLocals := 2, code := prog_1_method_24_code, exceptionTable := #[], attributes := #[] }
def k2m23 : Method := { name := "eventFd", desc := "(I)I", sig := { parameters := [.int], returnType := some .int }, accessFlags := 1, code := some k2c23 }
def k2c24 : Code := { maxStack := 2, maxLocals := 2, code := prog_1_method_25_code, exceptionTable := #[], attributes := #[] }
def k2m24 : Method := { name := "eventMask", desc := "(I)I", sig := { parameters := [.int], returnType := some .int }, accessFlags := 1, code := some k2c24 }
def k2c25 : Code := { maxStack := 2, maxLocals := 2, code := prog_1_method_26_code, exceptionTable := #[], attributes := #[] }
def k2m25 : Method := { name := "pipeBytes", desc := "(I)I", sig := { parameters := [.int], returnType := some .int }, accessFlags := 1, code := some k2c25 }
def k2c26 : Code := { maxStack := 2, maxLocals := 2, code := prog_1_method_27_code, exceptionTable := #[], attributes := #[] }
def k2m26 : Method := { name := "fdReadiness", desc := "(I)I", sig := { parameters := [.int], returnType := some .int }, accessFlags := 1, code := some k2c26 }
def k2c27 : Code := { maxStack := 3, maxLocals := 5, code := prog_1_method_28_code, exceptionTable := #[], attributes := #[] }
def k2m27 : Method := { name := "regInfo", desc := "(II)I", sig := { parameters := [.int, .int], returnType := some .int }, accessFlags := 1, code := some k2c27 }
def k2c28 : Code := { maxStack := 3, maxLocals := 4, code := prog_1_method_29_code, exceptionTable := #[], attributes := #[] }
def k2m28 : Method := { name := "peekReady", desc := "(II)I", sig := { parameters := [.int, .int], returnType := some .int }, accessFlags := 1, code := some k2c28 }
def k2c29 : Code := { maxStack := 3, maxLocals := 6, code := prog_1_method_30_code, exceptionTable := #[], attributes := #[] }
def k2m29 : Method := { name := "readyCount", desc := "(I)I", sig := { parameters := [.int], returnType := some .int }, accessFlags := 1, code := some k2c29 }
/-- ReadinessPoller -/
def k2 : Class := { plain "ReadinessPoller" (some 0) with
  accessFlags := 49
  interfaces := #[]
  cf := some (fileOf pool2 8 #[] #[{ accessFlags := 1, nameIndex := 5, descriptorIndex := 96, attributes := #[] }, { accessFlags := 2, nameIndex := 46, descriptorIndex := 47, attributes := #[] }, { accessFlags := 2, nameIndex := 78, descriptorIndex := 79, attributes := #[] }, { accessFlags := 2, nameIndex := 63, descriptorIndex := 64, attributes := #[] }, { accessFlags := 2, nameIndex := 67, descriptorIndex := 64, attributes := #[] }, { accessFlags := 2, nameIndex := 82, descriptorIndex := 79, attributes := #[] }, { accessFlags := 2, nameIndex := 92, descriptorIndex := 79, attributes := #[] }, { accessFlags := 2, nameIndex := 70, descriptorIndex := 71, attributes := #[] }, { accessFlags := 2, nameIndex := 99, descriptorIndex := 71, attributes := #[] }, { accessFlags := 2, nameIndex := 95, descriptorIndex := 96, attributes := #[] }, { accessFlags := 2, nameIndex := 74, descriptorIndex := 75, attributes := #[] }, { accessFlags := 2, nameIndex := 89, descriptorIndex := 75, attributes := #[] }, { accessFlags := 2, nameIndex := 85, descriptorIndex := 86, attributes := #[] }, { accessFlags := 2, nameIndex := 105, descriptorIndex := 71, attributes := #[] }, { accessFlags := 1, nameIndex := 142, descriptorIndex := 143, attributes := #[] }, { accessFlags := 1, nameIndex := 144, descriptorIndex := 71, attributes := #[] }, { accessFlags := 1, nameIndex := 145, descriptorIndex := 64, attributes := #[] }, { accessFlags := 1, nameIndex := 146, descriptorIndex := 64, attributes := #[] }, { accessFlags := 1, nameIndex := 147, descriptorIndex := 47, attributes := #[] }, { accessFlags := 1, nameIndex := 148, descriptorIndex := 47, attributes := #[] }, { accessFlags := 1, nameIndex := 149, descriptorIndex := 71, attributes := #[] }, { accessFlags := 1, nameIndex := 150, descriptorIndex := 71, attributes := #[] }, { accessFlags := 2, nameIndex := 102, descriptorIndex := 75, attributes := #[] }, { accessFlags := 1, nameIndex := 151, descriptorIndex := 64, attributes := #[] }, { accessFlags := 1, nameIndex := 152, descriptorIndex := 64, attributes := #[] }, { accessFlags := 1, nameIndex := 153, descriptorIndex := 64, attributes := #[] }, { accessFlags := 1, nameIndex := 154, descriptorIndex := 64, attributes := #[] }, { accessFlags := 1, nameIndex := 155, descriptorIndex := 71, attributes := #[] }, { accessFlags := 1, nameIndex := 156, descriptorIndex := 71, attributes := #[] }, { accessFlags := 1, nameIndex := 157, descriptorIndex := 64, attributes := #[] }] 49 2 #[] #[{ accessFlags := 25, nameIndex := 106, descriptorIndex := 51, attributes := #[] }, { accessFlags := 25, nameIndex := 109, descriptorIndex := 51, attributes := #[] }, { accessFlags := 25, nameIndex := 111, descriptorIndex := 51, attributes := #[] }, { accessFlags := 25, nameIndex := 113, descriptorIndex := 51, attributes := #[] }, { accessFlags := 25, nameIndex := 115, descriptorIndex := 51, attributes := #[] }, { accessFlags := 25, nameIndex := 117, descriptorIndex := 51, attributes := #[] }, { accessFlags := 25, nameIndex := 119, descriptorIndex := 51, attributes := #[] }, { accessFlags := 25, nameIndex := 121, descriptorIndex := 51, attributes := #[] }, { accessFlags := 25, nameIndex := 123, descriptorIndex := 51, attributes := #[] }, { accessFlags := 25, nameIndex := 125, descriptorIndex := 51, attributes := #[] }, { accessFlags := 25, nameIndex := 127, descriptorIndex := 51, attributes := #[] }, { accessFlags := 25, nameIndex := 129, descriptorIndex := 51, attributes := #[] }, { accessFlags := 25, nameIndex := 131, descriptorIndex := 51, attributes := #[] }, { accessFlags := 25, nameIndex := 133, descriptorIndex := 51, attributes := #[] }, { accessFlags := 25, nameIndex := 135, descriptorIndex := 51, attributes := #[] }, { accessFlags := 25, nameIndex := 137, descriptorIndex := 51, attributes := #[] }, { accessFlags := 2, nameIndex := 50, descriptorIndex := 51, attributes := #[] }, { accessFlags := 2, nameIndex := 54, descriptorIndex := 51, attributes := #[] }, { accessFlags := 2, nameIndex := 57, descriptorIndex := 51, attributes := #[] }, { accessFlags := 2, nameIndex := 11, descriptorIndex := 12, attributes := #[] }, { accessFlags := 2, nameIndex := 15, descriptorIndex := 12, attributes := #[] }, { accessFlags := 2, nameIndex := 18, descriptorIndex := 19, attributes := #[] }, { accessFlags := 2, nameIndex := 22, descriptorIndex := 19, attributes := #[] }, { accessFlags := 2, nameIndex := 25, descriptorIndex := 19, attributes := #[] }, { accessFlags := 2, nameIndex := 28, descriptorIndex := 12, attributes := #[] }, { accessFlags := 2, nameIndex := 31, descriptorIndex := 19, attributes := #[] }, { accessFlags := 2, nameIndex := 34, descriptorIndex := 12, attributes := #[] }, { accessFlags := 2, nameIndex := 37, descriptorIndex := 19, attributes := #[] }, { accessFlags := 2, nameIndex := 40, descriptorIndex := 19, attributes := #[] }, { accessFlags := 2, nameIndex := 43, descriptorIndex := 19, attributes := #[] }, { accessFlags := 2, nameIndex := 60, descriptorIndex := 51, attributes := #[] }])
  fields := #[{ name := "IN", type := .int, accessFlags := 25, slot := 0, constantValue := 0 }, { name := "OUT", type := .int, accessFlags := 25, slot := 1, constantValue := 0 }, { name := "HUP", type := .int, accessFlags := 25, slot := 2, constantValue := 0 }, { name := "ERR", type := .int, accessFlags := 25, slot := 3, constantValue := 0 }, { name := "EDGE", type := .int, accessFlags := 25, slot := 4, constantValue := 0 }, { name := "ONESHOT", type := .int, accessFlags := 25, slot := 5, constantValue := 0 }, { name := "DISABLED", type := .int, accessFlags := 25, slot := 6, constantValue := 0 }, { name := "OK", type := .int, accessFlags := 25, slot := 7, constantValue := 0 }, { name := "ERR_BADF", type := .int, accessFlags := 25, slot := 8, constantValue := 0 }, { name := "ERR_AGAIN", type := .int, accessFlags := 25, slot := 9, constantValue := 0 }, { name := "EOF", type := .int, accessFlags := 25, slot := 10, constantValue := 0 }, { name := "ERR_PIPE", type := .int, accessFlags := 25, slot := 11, constantValue := 0 }, { name := "ERR_EXIST", type := .int, accessFlags := 25, slot := 12, constantValue := 0 }, { name := "ERR_INVAL", type := .int, accessFlags := 25, slot := 13, constantValue := 0 }, { name := "ERR_NOENT", type := .int, accessFlags := 25, slot := 14, constantValue := 0 }, { name := "ERR_NOPIPE", type := .int, accessFlags := 25, slot := 15, constantValue := 0 }, { name := "nPipes", type := .int, accessFlags := 2, slot := 0, constantValue := 0 }, { name := "cap", type := .int, accessFlags := 2, slot := 1, constantValue := 0 }, { name := "nPolls", type := .int, accessFlags := 2, slot := 2, constantValue := 0 }, { name := "readOpen", type := (.array .boolean), accessFlags := 2, slot := 3, constantValue := 0 }, { name := "writeOpen", type := (.array .boolean), accessFlags := 2, slot := 4, constantValue := 0 }, { name := "buf", type := (.array .int), accessFlags := 2, slot := 5, constantValue := 0 }, { name := "head", type := (.array .int), accessFlags := 2, slot := 6, constantValue := 0 }, { name := "count", type := (.array .int), accessFlags := 2, slot := 7, constantValue := 0 }, { name := "regged", type := (.array .boolean), accessFlags := 2, slot := 8, constantValue := 0 }, { name := "word", type := (.array .int), accessFlags := 2, slot := 9, constantValue := 0 }, { name := "enabled", type := (.array .boolean), accessFlags := 2, slot := 10, constantValue := 0 }, { name := "pend", type := (.array .int), accessFlags := 2, slot := 11, constantValue := 0 }, { name := "resFd", type := (.array .int), accessFlags := 2, slot := 12, constantValue := 0 }, { name := "resMask", type := (.array .int), accessFlags := 2, slot := 13, constantValue := 0 }, { name := "resN", type := .int, accessFlags := 2, slot := 14, constantValue := 0 }]
  methods := #[k2m0, k2m1, k2m2, k2m3, k2m4, k2m5, k2m6, k2m7, k2m8, k2m9, k2m10, k2m11, k2m12, k2m13, k2m14, k2m15, k2m16, k2m17, k2m18, k2m19, k2m20, k2m21, k2m22, k2m23, k2m24, k2m25, k2m26, k2m27, k2m28, k2m29]
  instanceTypes := #[.int, .int, .int, (.array .boolean), (.array .boolean), (.array .int), (.array .int), (.array .int), (.array .boolean), (.array .int), (.array .boolean), (.array .int), (.array .int), (.array .int), .int]
  staticTypes := #[.int, .int, .int, .int, .int, .int, .int, .int, .int, .int, .int, .int, .int, .int, .int, .int]
  resolved := Array.replicate 160 none
  statics := none }

def pool3 : Array CpInfo := pool [(1, u "java/lang/Cloneable"), (0, .class_ 1), (0, u "java/lang/Object"), (0, .class_ 3)] 3

/-- java/lang/Cloneable -/
def k3 : Class := { plain "java/lang/Cloneable" (some 0) with
  accessFlags := 1537
  interfaces := #[]
  cf := some (fileOf pool3 2 #[] #[] 1537 4 #[] #[])
  fields := #[]
  methods := #[]
  instanceTypes := #[]
  staticTypes := #[]
  resolved := Array.replicate 8 none
  statics := none }

def pool4 : Array CpInfo := pool [(1, u "java/io/Serializable"), (0, .class_ 1), (0, u "java/lang/Object"), (0, .class_ 3)] 3

/-- java/io/Serializable -/
def k4 : Class := { plain "java/io/Serializable" (some 0) with
  accessFlags := 1537
  interfaces := #[]
  cf := some (fileOf pool4 2 #[] #[] 1537 4 #[] #[])
  fields := #[]
  methods := #[]
  instanceTypes := #[]
  staticTypes := #[]
  resolved := Array.replicate 8 none
  statics := none }

/-- the primitive boolean -/
def k5 : Class := { plain "boolean" none with kind := .primitive 'Z', accessFlags := 0x411 }
/-- [Z -/
def k6 : Class := { plain "[Z" (some 0) with kind := .array 5 .boolean, interfaces := #[3, 4], accessFlags := 1041 }

/-- the primitive byte -/
def k7 : Class := { plain "byte" none with kind := .primitive 'B', accessFlags := 0x411 }
/-- [B -/
def k8 : Class := { plain "[B" (some 0) with kind := .array 7 .byte, interfaces := #[3, 4], accessFlags := 1041 }

/-- the primitive int -/
def k9 : Class := { plain "int" none with kind := .primitive 'I', accessFlags := 0x411 }
/-- [I -/
def k10 : Class := { plain "[I" (some 0) with kind := .array 9 .int, interfaces := #[3, 4], accessFlags := 1041 }

def heap : Heap := #[{ cls := 10, slots := #[.int 1, .int 2, .int 3], vm := .none }]
def classes : Array Class := #[k0, k1, k2, k3, k4, k5, k6, k7, k8, k9, k10]
def interned : List (Array UInt16 × Addr) := []
def slotsUsed : Nat := 3
def theMethod : MethodId := ⟨1, 1⟩
def args0 : Array Value := #[.ref 0]
def aboutOver (below : List Frame) : State where
  vm := { classes := classes, interned := interned.toArray }
  heap := heap
  slotsUsed := slotsUsed
  threads := #[{ frames := .invoking theMethod args0 :: below }]
def below0 : List Frame := [.native { method := ⟨0, 0⟩, args := #[] }]
def about1 : State := aboutOver below0
def p0 : Program := .bare "" "" ""
def e0 : Env := launch0.env 0 0 0
theorem w_frames : about1.frames = Frame.invoking theMethod args0 :: below0 := rfl
set_option maxRecDepth 65536 in
theorem w_args : argsFit about1.vm theMethod args0 = true := by decide +kernel
set_option maxRecDepth 65536 in
theorem w_heap : heapFits about1 = true := by decide +kernel
set_option maxRecDepth 65536 in
theorem w_runnable : about1.curStatus? = some .runnable := by decide +kernel
set_option maxRecDepth 65536 in
theorem w_alone : about1.alone = true := by decide +kernel
set_option maxRecDepth 65536 in
theorem w_named : about1.methodNamed? x = some theMethod := by decide +kernel
set_option maxRecDepth 65536 in
theorem w_hears : about1.hears theMethod below0 = true := by decide +kernel
set_option maxRecDepth 65536 in
theorem w_ripe : about1.ripe theMethod args0 below0 = true := by decide +kernel
theorem w_running : about1.status = .running := rfl
set_option maxRecDepth 65536 in
theorem w_room : about1.hasRoom e0.platform room_1 = true :=
  launch0.hasRoom_least _ room_1 (by decide +kernel) (by decide +kernel) (by decide +kernel) (by decide +kernel) (by decide +kernel) (by decide +kernel)
theorem allAtoms_all (ts : List Jvm.Cond) (a : Array Jvm.Value) (st : Jvm.State) : (allAtoms ts).before a st = ts.all (fun c => c.before a st) := by
  induction ts with
  | nil => rfl
  | cons c t ih =>
    show (Jvm.Cond.and c (allAtoms t)).before a st = _
    rw [Jvm.Cond.before_and, ih, List.all_cons]
def words1 : List Jvm.Cond := Jvm.Cond.code x code maxLocals ret :: tables_1
/-- a 'code' word, met by the world's own term for the bytes: nothing is compared byte by byte -/
theorem code_word {y : MethodName} {bytes : ByteArray} {mx : Nat} {rt : Option FieldType} {a : Array Value} {s : State} {m : MethodId} {meth : Method} {c : Code} (h1 : s.methodNamed? y = some m) (h2 : s.vm.method? m = some meth) (h3 : meth.code = some c) (h4 : c.code = bytes)
    (h5 : (c.maxLocals == mx && c.exceptionTable.isEmpty && decide (c.maxStack ≤ mostOperands) && decide (meth.sig.returnType = rt) && !meth.locks && decide (parseMethodDescriptor y.desc = some meth.sig)) = true) : (Jvm.Cond.code y bytes mx rt).before a s = true := by
  simp only [Bool.and_eq_true, beq_iff_eq, Bool.not_eq_true', decide_eq_true_eq] at h5
  obtain ⟨⟨⟨⟨⟨g1, g2⟩, g3⟩, g4⟩, g5⟩, g6⟩ := h5
  simp [Cond.before, Cond.holds, Cond.value, h1, h2, h3, h4, g1, g2, g3, g4, g5, g6]
def isCode : Jvm.Cond → Bool
  | .code _ _ _ _ => true
  | _ => false
theorem all_split {L : List Jvm.Cond} {P : Jvm.Cond → Bool} (h1 : L.all (fun c => isCode c || P c) = true) (h2 : ∀ c ∈ L.filter isCode, P c = true) : L.all P = true := by
  refine List.all_eq_true.mpr fun c hc => ?_
  have h := List.all_eq_true.mp h1 c hc
  rcases Bool.eq_false_or_eq_true (isCode c) with hi | hi
  · exact h2 c (List.mem_filter.mpr ⟨hc, hi⟩)
  · simpa [hi] using h
set_option maxRecDepth 65536 in
theorem w_c0 : (Jvm.Cond.code x code maxLocals ret).before args0 about1 = true := code_word (m := ⟨1, 1⟩) (meth := k1m1) (c := k1c1) (by decide +kernel) rfl rfl rfl (by decide +kernel)
set_option maxRecDepth 65536 in
theorem w_c1 : (Jvm.Cond.code ({ cls := "ReadinessPoller", name := "<init>", desc := "(III)V" } : Jvm.MethodName) prog_1_method_1_code (4 : Nat) (Option.none : Option Jvm.ClassFile.FieldType)).before args0 about1 = true := code_word (m := ⟨2, 0⟩) (meth := k2m0) (c := k2c0) (by decide +kernel) rfl rfl rfl (by decide +kernel)
set_option maxRecDepth 65536 in
theorem w_c2 : (Jvm.Cond.code ({ cls := "java/lang/Object", name := "<init>", desc := "()V" } : Jvm.MethodName) object_method_1_code (1 : Nat) (Option.none : Option Jvm.ClassFile.FieldType)).before args0 about1 = true := code_word (m := ⟨0, 0⟩) (meth := k0m0) (c := k0c0) (by decide +kernel) rfl rfl rfl (by decide +kernel)
set_option maxRecDepth 65536 in
theorem w_c3 : (Jvm.Cond.code ({ cls := "ReadinessPoller", name := "clamp", desc := "(III)I" } : Jvm.MethodName) prog_1_method_2_code (4 : Nat) (Option.some Jvm.ClassFile.FieldType.int)).before args0 about1 = true := code_word (m := ⟨2, 1⟩) (meth := k2m1) (c := k2c1) (by decide +kernel) rfl rfl rfl (by decide +kernel)
set_option maxRecDepth 65536 in
theorem w_c4 : (Jvm.Cond.code ({ cls := "ReadinessPollerL6", name := "rd", desc := "(III)I" } : Jvm.MethodName) method_3_code (5 : Nat) (Option.some Jvm.ClassFile.FieldType.int)).before args0 about1 = true := code_word (m := ⟨1, 2⟩) (meth := k1m2) (c := k1c2) (by decide +kernel) rfl rfl rfl (by decide +kernel)
set_option maxRecDepth 65536 in
theorem w_c5 : (Jvm.Cond.code ({ cls := "ReadinessPoller", name := "closeFd", desc := "(I)I" } : Jvm.MethodName) prog_1_method_18_code (5 : Nat) (Option.some Jvm.ClassFile.FieldType.int)).before args0 about1 = true := code_word (m := ⟨2, 17⟩) (meth := k2m17) (c := k2c17) (by decide +kernel) rfl rfl rfl (by decide +kernel)
set_option maxRecDepth 65536 in
theorem w_c6 : (Jvm.Cond.code ({ cls := "ReadinessPoller", name := "isOpen", desc := "(I)Z" } : Jvm.MethodName) prog_1_method_3_code (3 : Nat) (Option.some Jvm.ClassFile.FieldType.boolean)).before args0 about1 = true := code_word (m := ⟨2, 2⟩) (meth := k2m2) (c := k2c2) (by decide +kernel) rfl rfl rfl (by decide +kernel)
set_option maxRecDepth 65536 in
theorem w_c7 : (Jvm.Cond.code ({ cls := "ReadinessPollerL6", name := "check", desc := "(LReadinessPoller;IIJIIII)Z" } : Jvm.MethodName) method_6_code (14 : Nat) (Option.some Jvm.ClassFile.FieldType.boolean)).before args0 about1 = true := code_word (m := ⟨1, 5⟩) (meth := k1m5) (c := k1c5) (by decide +kernel) rfl rfl rfl (by decide +kernel)
set_option maxRecDepth 65536 in
theorem w_c8 : (Jvm.Cond.code ({ cls := "ReadinessPoller", name := "pipeBytes", desc := "(I)I" } : Jvm.MethodName) prog_1_method_26_code (2 : Nat) (Option.some Jvm.ClassFile.FieldType.int)).before args0 about1 = true := code_word (m := ⟨2, 25⟩) (meth := k2m25) (c := k2c25) (by decide +kernel) rfl rfl rfl (by decide +kernel)
set_option maxRecDepth 65536 in
theorem w_c9 : (Jvm.Cond.code ({ cls := "ReadinessPoller", name := "fdReadiness", desc := "(I)I" } : Jvm.MethodName) prog_1_method_27_code (2 : Nat) (Option.some Jvm.ClassFile.FieldType.int)).before args0 about1 = true := code_word (m := ⟨2, 26⟩) (meth := k2m26) (c := k2c26) (by decide +kernel) rfl rfl rfl (by decide +kernel)
set_option maxRecDepth 65536 in
theorem w_c10 : (Jvm.Cond.code ({ cls := "ReadinessPollerL6", name := "peek", desc := "(JIIII)I" } : Jvm.MethodName) method_4_code (7 : Nat) (Option.some Jvm.ClassFile.FieldType.int)).before args0 about1 = true := code_word (m := ⟨1, 3⟩) (meth := k1m3) (c := k1c3) (by decide +kernel) rfl rfl rfl (by decide +kernel)
set_option maxRecDepth 65536 in
theorem w_c11 : (Jvm.Cond.code ({ cls := "ReadinessPoller", name := "regInfo", desc := "(II)I" } : Jvm.MethodName) prog_1_method_28_code (5 : Nat) (Option.some Jvm.ClassFile.FieldType.int)).before args0 about1 = true := code_word (m := ⟨2, 27⟩) (meth := k2m27) (c := k2c27) (by decide +kernel) rfl rfl rfl (by decide +kernel)
set_option maxRecDepth 65536 in
theorem w_c12 : (Jvm.Cond.code ({ cls := "ReadinessPoller", name := "lookup", desc := "(II)I" } : Jvm.MethodName) prog_1_method_14_code (4 : Nat) (Option.some Jvm.ClassFile.FieldType.int)).before args0 about1 = true := code_word (m := ⟨2, 13⟩) (meth := k2m13) (c := k2c13) (by decide +kernel) rfl rfl rfl (by decide +kernel)
set_option maxRecDepth 65536 in
theorem w_c13 : (Jvm.Cond.code ({ cls := "ReadinessPoller", name := "validQ", desc := "(I)Z" } : Jvm.MethodName) prog_1_method_6_code (2 : Nat) (Option.some Jvm.ClassFile.FieldType.boolean)).before args0 about1 = true := code_word (m := ⟨2, 5⟩) (meth := k2m5) (c := k2c5) (by decide +kernel) rfl rfl rfl (by decide +kernel)
set_option maxRecDepth 65536 in
theorem w_c14 : (Jvm.Cond.code ({ cls := "ReadinessPoller", name := "peekReady", desc := "(II)I" } : Jvm.MethodName) prog_1_method_29_code (4 : Nat) (Option.some Jvm.ClassFile.FieldType.int)).before args0 about1 = true := code_word (m := ⟨2, 28⟩) (meth := k2m28) (c := k2c28) (by decide +kernel) rfl rfl rfl (by decide +kernel)
set_option maxRecDepth 65536 in
theorem w_c15 : (Jvm.Cond.code ({ cls := "ReadinessPoller", name := "readyCount", desc := "(I)I" } : Jvm.MethodName) prog_1_method_30_code (6 : Nat) (Option.some Jvm.ClassFile.FieldType.int)).before args0 about1 = true := code_word (m := ⟨2, 29⟩) (meth := k2m29) (c := k2c29) (by decide +kernel) rfl rfl rfl (by decide +kernel)
set_option maxRecDepth 65536 in
theorem w_c16 : (Jvm.Cond.code ({ cls := "ReadinessPoller", name := "slot", desc := "(II)I" } : Jvm.MethodName) prog_1_method_8_code (3 : Nat) (Option.some Jvm.ClassFile.FieldType.int)).before args0 about1 = true := code_word (m := ⟨2, 7⟩) (meth := k2m7) (c := k2c7) (by decide +kernel) rfl rfl rfl (by decide +kernel)
set_option maxRecDepth 65536 in
theorem w_c17 : (Jvm.Cond.code ({ cls := "ReadinessPoller", name := "eventFd", desc := "(I)I" } : Jvm.MethodName) prog_1_method_24_code (2 : Nat) (Option.some Jvm.ClassFile.FieldType.int)).before args0 about1 = true := code_word (m := ⟨2, 23⟩) (meth := k2m23) (c := k2c23) (by decide +kernel) rfl rfl rfl (by decide +kernel)
set_option maxRecDepth 65536 in
theorem w_c18 : (Jvm.Cond.code ({ cls := "ReadinessPoller", name := "eventMask", desc := "(I)I" } : Jvm.MethodName) prog_1_method_25_code (2 : Nat) (Option.some Jvm.ClassFile.FieldType.int)).before args0 about1 = true := code_word (m := ⟨2, 24⟩) (meth := k2m24) (c := k2c24) (by decide +kernel) rfl rfl rfl (by decide +kernel)
set_option maxRecDepth 65536 in
theorem w_c19 : (Jvm.Cond.code ({ cls := "ReadinessPoller", name := "write", desc := "(II)I" } : Jvm.MethodName) prog_1_method_16_code (7 : Nat) (Option.some Jvm.ClassFile.FieldType.int)).before args0 about1 = true := code_word (m := ⟨2, 15⟩) (meth := k2m15) (c := k2c15) (by decide +kernel) rfl rfl rfl (by decide +kernel)
set_option maxRecDepth 65536 in
theorem w_c20 : (Jvm.Cond.code ({ cls := "ReadinessPoller", name := "createPipe", desc := "()I" } : Jvm.MethodName) prog_1_method_15_code (2 : Nat) (Option.some Jvm.ClassFile.FieldType.int)).before args0 about1 = true := code_word (m := ⟨2, 14⟩) (meth := k2m14) (c := k2c14) (by decide +kernel) rfl rfl rfl (by decide +kernel)
set_option maxRecDepth 65536 in
theorem w_c21 : (Jvm.Cond.code ({ cls := "ReadinessPoller", name := "rawReady", desc := "(I)I" } : Jvm.MethodName) prog_1_method_4_code (4 : Nat) (Option.some Jvm.ClassFile.FieldType.int)).before args0 about1 = true := code_word (m := ⟨2, 3⟩) (meth := k2m3) (c := k2c3) (by decide +kernel) rfl rfl rfl (by decide +kernel)
set_option maxRecDepth 65536 in
theorem w_c22 : (Jvm.Cond.code ({ cls := "ReadinessPoller", name := "removeRegs", desc := "(I)V" } : Jvm.MethodName) prog_1_method_12_code (3 : Nat) (Option.none : Option Jvm.ClassFile.FieldType)).before args0 about1 = true := code_word (m := ⟨2, 11⟩) (meth := k2m11) (c := k2c11) (by decide +kernel) rfl rfl rfl (by decide +kernel)
set_option maxRecDepth 65536 in
theorem w_c23 : (Jvm.Cond.code ({ cls := "ReadinessPoller", name := "clearReg", desc := "(I)V" } : Jvm.MethodName) prog_1_method_11_code (2 : Nat) (Option.none : Option Jvm.ClassFile.FieldType)).before args0 about1 = true := code_word (m := ⟨2, 10⟩) (meth := k2m10) (c := k2c10) (by decide +kernel) rfl rfl rfl (by decide +kernel)
set_option maxRecDepth 65536 in
theorem w_c24 : (Jvm.Cond.code ({ cls := "ReadinessPoller", name := "edgeUpdate", desc := "(II)V" } : Jvm.MethodName) prog_1_method_13_code (7 : Nat) (Option.none : Option Jvm.ClassFile.FieldType)).before args0 about1 = true := code_word (m := ⟨2, 12⟩) (meth := k2m12) (c := k2c12) (by decide +kernel) rfl rfl rfl (by decide +kernel)
set_option maxRecDepth 65536 in
theorem w_c25 : (Jvm.Cond.code ({ cls := "ReadinessPollerL6", name := "edge", desc := "(JIIIIII)I" } : Jvm.MethodName) method_5_code (15 : Nat) (Option.some Jvm.ClassFile.FieldType.int)).before args0 about1 = true := code_word (m := ⟨1, 4⟩) (meth := k1m4) (c := k1c4) (by decide +kernel) rfl rfl rfl (by decide +kernel)
set_option maxRecDepth 65536 in
theorem w_c26 : (Jvm.Cond.code ({ cls := "ReadinessPoller", name := "read", desc := "(I)I" } : Jvm.MethodName) prog_1_method_17_code (6 : Nat) (Option.some Jvm.ClassFile.FieldType.int)).before args0 about1 = true := code_word (m := ⟨2, 16⟩) (meth := k2m16) (c := k2c16) (by decide +kernel) rfl rfl rfl (by decide +kernel)
set_option maxRecDepth 65536 in
theorem w_c27 : (Jvm.Cond.code ({ cls := "ReadinessPoller", name := "ctlDel", desc := "(II)I" } : Jvm.MethodName) prog_1_method_21_code (4 : Nat) (Option.some Jvm.ClassFile.FieldType.int)).before args0 about1 = true := code_word (m := ⟨2, 20⟩) (meth := k2m20) (c := k2c20) (by decide +kernel) rfl rfl rfl (by decide +kernel)
set_option maxRecDepth 65536 in
theorem w_c28 : (Jvm.Cond.code ({ cls := "ReadinessPoller", name := "wait", desc := "(II)I" } : Jvm.MethodName) prog_1_method_22_code (9 : Nat) (Option.some Jvm.ClassFile.FieldType.int)).before args0 about1 = true := code_word (m := ⟨2, 21⟩) (meth := k2m21) (c := k2c21) (by decide +kernel) rfl rfl rfl (by decide +kernel)
set_option maxRecDepth 65536 in
theorem w_c29 : (Jvm.Cond.code ({ cls := "ReadinessPoller", name := "ctlMod", desc := "(III)I" } : Jvm.MethodName) prog_1_method_20_code (5 : Nat) (Option.some Jvm.ClassFile.FieldType.int)).before args0 about1 = true := code_word (m := ⟨2, 19⟩) (meth := k2m19) (c := k2c19) (by decide +kernel) rfl rfl rfl (by decide +kernel)
set_option maxRecDepth 65536 in
theorem w_c30 : (Jvm.Cond.code ({ cls := "ReadinessPoller", name := "ctlAdd", desc := "(III)I" } : Jvm.MethodName) prog_1_method_19_code (5 : Nat) (Option.some Jvm.ClassFile.FieldType.int)).before args0 about1 = true := code_word (m := ⟨2, 18⟩) (meth := k2m18) (c := k2c18) (by decide +kernel) rfl rfl rfl (by decide +kernel)
set_option maxRecDepth 65536 in
theorem w_c31 : (Jvm.Cond.code ({ cls := "ReadinessPoller", name := "validWord", desc := "(I)Z" } : Jvm.MethodName) prog_1_method_7_code (2 : Nat) (Option.some Jvm.ClassFile.FieldType.boolean)).before args0 about1 = true := code_word (m := ⟨2, 6⟩) (meth := k2m6) (c := k2c6) (by decide +kernel) rfl rfl rfl (by decide +kernel)
set_option maxRecDepth 65536 in
theorem w_c32 : (Jvm.Cond.code ({ cls := "ReadinessPoller", name := "arm", desc := "(III)V" } : Jvm.MethodName) prog_1_method_10_code (4 : Nat) (Option.none : Option Jvm.ClassFile.FieldType)).before args0 about1 = true := code_word (m := ⟨2, 9⟩) (meth := k2m9) (c := k2c9) (by decide +kernel) rfl rfl rfl (by decide +kernel)
set_option maxRecDepth 65536 in
theorem w_c33 : (Jvm.Cond.code ({ cls := "ReadinessPoller", name := "peek", desc := "(II)I" } : Jvm.MethodName) prog_1_method_9_code (3 : Nat) (Option.some Jvm.ClassFile.FieldType.int)).before args0 about1 = true := code_word (m := ⟨2, 8⟩) (meth := k2m8) (c := k2c8) (by decide +kernel) rfl rfl rfl (by decide +kernel)
set_option maxRecDepth 65536 in
theorem w_c34 : (Jvm.Cond.code ({ cls := "ReadinessPoller", name := "watched", desc := "(I)I" } : Jvm.MethodName) prog_1_method_5_code (2 : Nat) (Option.some Jvm.ClassFile.FieldType.int)).before args0 about1 = true := code_word (m := ⟨2, 4⟩) (meth := k2m4) (c := k2c4) (by decide +kernel) rfl rfl rfl (by decide +kernel)
set_option maxRecDepth 65536 in
theorem w_c35 : (Jvm.Cond.code ({ cls := "ReadinessPoller", name := "consume", desc := "(I)V" } : Jvm.MethodName) prog_1_method_23_code (2 : Nat) (Option.none : Option Jvm.ClassFile.FieldType)).before args0 about1 = true := code_word (m := ⟨2, 22⟩) (meth := k2m22) (c := k2c22) (by decide +kernel) rfl rfl rfl (by decide +kernel)
def codes1 : List Jvm.Cond := [Jvm.Cond.code x code maxLocals ret, Jvm.Cond.code ({ cls := "ReadinessPoller", name := "<init>", desc := "(III)V" } : Jvm.MethodName) prog_1_method_1_code (4 : Nat) (Option.none : Option Jvm.ClassFile.FieldType), Jvm.Cond.code ({ cls := "java/lang/Object", name := "<init>", desc := "()V" } : Jvm.MethodName) object_method_1_code (1 : Nat) (Option.none : Option Jvm.ClassFile.FieldType), Jvm.Cond.code ({ cls := "ReadinessPoller", name := "clamp", desc := "(III)I" } : Jvm.MethodName) prog_1_method_2_code (4 : Nat) (Option.some Jvm.ClassFile.FieldType.int), Jvm.Cond.code ({ cls := "ReadinessPollerL6", name := "rd", desc := "(III)I" } : Jvm.MethodName) method_3_code (5 : Nat) (Option.some Jvm.ClassFile.FieldType.int), Jvm.Cond.code ({ cls := "ReadinessPoller", name := "closeFd", desc := "(I)I" } : Jvm.MethodName) prog_1_method_18_code (5 : Nat) (Option.some Jvm.ClassFile.FieldType.int), Jvm.Cond.code ({ cls := "ReadinessPoller", name := "isOpen", desc := "(I)Z" } : Jvm.MethodName) prog_1_method_3_code (3 : Nat) (Option.some Jvm.ClassFile.FieldType.boolean), Jvm.Cond.code ({ cls := "ReadinessPollerL6", name := "check", desc := "(LReadinessPoller;IIJIIII)Z" } : Jvm.MethodName) method_6_code (14 : Nat) (Option.some Jvm.ClassFile.FieldType.boolean), Jvm.Cond.code ({ cls := "ReadinessPoller", name := "pipeBytes", desc := "(I)I" } : Jvm.MethodName) prog_1_method_26_code (2 : Nat) (Option.some Jvm.ClassFile.FieldType.int), Jvm.Cond.code ({ cls := "ReadinessPoller", name := "fdReadiness", desc := "(I)I" } : Jvm.MethodName) prog_1_method_27_code (2 : Nat) (Option.some Jvm.ClassFile.FieldType.int), Jvm.Cond.code ({ cls := "ReadinessPollerL6", name := "peek", desc := "(JIIII)I" } : Jvm.MethodName) method_4_code (7 : Nat) (Option.some Jvm.ClassFile.FieldType.int), Jvm.Cond.code ({ cls := "ReadinessPoller", name := "regInfo", desc := "(II)I" } : Jvm.MethodName) prog_1_method_28_code (5 : Nat) (Option.some Jvm.ClassFile.FieldType.int), Jvm.Cond.code ({ cls := "ReadinessPoller", name := "lookup", desc := "(II)I" } : Jvm.MethodName) prog_1_method_14_code (4 : Nat) (Option.some Jvm.ClassFile.FieldType.int), Jvm.Cond.code ({ cls := "ReadinessPoller", name := "validQ", desc := "(I)Z" } : Jvm.MethodName) prog_1_method_6_code (2 : Nat) (Option.some Jvm.ClassFile.FieldType.boolean), Jvm.Cond.code ({ cls := "ReadinessPoller", name := "peekReady", desc := "(II)I" } : Jvm.MethodName) prog_1_method_29_code (4 : Nat) (Option.some Jvm.ClassFile.FieldType.int), Jvm.Cond.code ({ cls := "ReadinessPoller", name := "readyCount", desc := "(I)I" } : Jvm.MethodName) prog_1_method_30_code (6 : Nat) (Option.some Jvm.ClassFile.FieldType.int), Jvm.Cond.code ({ cls := "ReadinessPoller", name := "slot", desc := "(II)I" } : Jvm.MethodName) prog_1_method_8_code (3 : Nat) (Option.some Jvm.ClassFile.FieldType.int), Jvm.Cond.code ({ cls := "ReadinessPoller", name := "eventFd", desc := "(I)I" } : Jvm.MethodName) prog_1_method_24_code (2 : Nat) (Option.some Jvm.ClassFile.FieldType.int), Jvm.Cond.code ({ cls := "ReadinessPoller", name := "eventMask", desc := "(I)I" } : Jvm.MethodName) prog_1_method_25_code (2 : Nat) (Option.some Jvm.ClassFile.FieldType.int), Jvm.Cond.code ({ cls := "ReadinessPoller", name := "write", desc := "(II)I" } : Jvm.MethodName) prog_1_method_16_code (7 : Nat) (Option.some Jvm.ClassFile.FieldType.int), Jvm.Cond.code ({ cls := "ReadinessPoller", name := "createPipe", desc := "()I" } : Jvm.MethodName) prog_1_method_15_code (2 : Nat) (Option.some Jvm.ClassFile.FieldType.int), Jvm.Cond.code ({ cls := "ReadinessPoller", name := "rawReady", desc := "(I)I" } : Jvm.MethodName) prog_1_method_4_code (4 : Nat) (Option.some Jvm.ClassFile.FieldType.int), Jvm.Cond.code ({ cls := "ReadinessPoller", name := "removeRegs", desc := "(I)V" } : Jvm.MethodName) prog_1_method_12_code (3 : Nat) (Option.none : Option Jvm.ClassFile.FieldType), Jvm.Cond.code ({ cls := "ReadinessPoller", name := "clearReg", desc := "(I)V" } : Jvm.MethodName) prog_1_method_11_code (2 : Nat) (Option.none : Option Jvm.ClassFile.FieldType), Jvm.Cond.code ({ cls := "ReadinessPoller", name := "edgeUpdate", desc := "(II)V" } : Jvm.MethodName) prog_1_method_13_code (7 : Nat) (Option.none : Option Jvm.ClassFile.FieldType), Jvm.Cond.code ({ cls := "ReadinessPollerL6", name := "edge", desc := "(JIIIIII)I" } : Jvm.MethodName) method_5_code (15 : Nat) (Option.some Jvm.ClassFile.FieldType.int), Jvm.Cond.code ({ cls := "ReadinessPoller", name := "read", desc := "(I)I" } : Jvm.MethodName) prog_1_method_17_code (6 : Nat) (Option.some Jvm.ClassFile.FieldType.int), Jvm.Cond.code ({ cls := "ReadinessPoller", name := "ctlDel", desc := "(II)I" } : Jvm.MethodName) prog_1_method_21_code (4 : Nat) (Option.some Jvm.ClassFile.FieldType.int), Jvm.Cond.code ({ cls := "ReadinessPoller", name := "wait", desc := "(II)I" } : Jvm.MethodName) prog_1_method_22_code (9 : Nat) (Option.some Jvm.ClassFile.FieldType.int), Jvm.Cond.code ({ cls := "ReadinessPoller", name := "ctlMod", desc := "(III)I" } : Jvm.MethodName) prog_1_method_20_code (5 : Nat) (Option.some Jvm.ClassFile.FieldType.int), Jvm.Cond.code ({ cls := "ReadinessPoller", name := "ctlAdd", desc := "(III)I" } : Jvm.MethodName) prog_1_method_19_code (5 : Nat) (Option.some Jvm.ClassFile.FieldType.int), Jvm.Cond.code ({ cls := "ReadinessPoller", name := "validWord", desc := "(I)Z" } : Jvm.MethodName) prog_1_method_7_code (2 : Nat) (Option.some Jvm.ClassFile.FieldType.boolean), Jvm.Cond.code ({ cls := "ReadinessPoller", name := "arm", desc := "(III)V" } : Jvm.MethodName) prog_1_method_10_code (4 : Nat) (Option.none : Option Jvm.ClassFile.FieldType), Jvm.Cond.code ({ cls := "ReadinessPoller", name := "peek", desc := "(II)I" } : Jvm.MethodName) prog_1_method_9_code (3 : Nat) (Option.some Jvm.ClassFile.FieldType.int), Jvm.Cond.code ({ cls := "ReadinessPoller", name := "watched", desc := "(I)I" } : Jvm.MethodName) prog_1_method_5_code (2 : Nat) (Option.some Jvm.ClassFile.FieldType.int), Jvm.Cond.code ({ cls := "ReadinessPoller", name := "consume", desc := "(I)V" } : Jvm.MethodName) prog_1_method_23_code (2 : Nat) (Option.none : Option Jvm.ClassFile.FieldType)]
set_option maxRecDepth 65536 in
theorem codes_eq : words1.filter isCode = codes1 := rfl
theorem w_codes : ∀ c ∈ words1.filter isCode, c.before args0 about1 = true := by
  rw [codes_eq]
  intro c hc
  simp only [codes1, List.mem_cons, List.not_mem_nil, or_false] at hc
  rcases hc with rfl | rfl | rfl | rfl | rfl | rfl | rfl | rfl | rfl | rfl | rfl | rfl | rfl | rfl | rfl | rfl | rfl | rfl | rfl | rfl | rfl | rfl | rfl | rfl | rfl | rfl | rfl | rfl | rfl | rfl | rfl | rfl | rfl | rfl | rfl | rfl
  · exact w_c0
  · exact w_c1
  · exact w_c2
  · exact w_c3
  · exact w_c4
  · exact w_c5
  · exact w_c6
  · exact w_c7
  · exact w_c8
  · exact w_c9
  · exact w_c10
  · exact w_c11
  · exact w_c12
  · exact w_c13
  · exact w_c14
  · exact w_c15
  · exact w_c16
  · exact w_c17
  · exact w_c18
  · exact w_c19
  · exact w_c20
  · exact w_c21
  · exact w_c22
  · exact w_c23
  · exact w_c24
  · exact w_c25
  · exact w_c26
  · exact w_c27
  · exact w_c28
  · exact w_c29
  · exact w_c30
  · exact w_c31
  · exact w_c32
  · exact w_c33
  · exact w_c34
  · exact w_c35
set_option maxRecDepth 65536 in
theorem w_t1 : (words1.take 24).all (fun c => isCode c || c.before args0 about1) = true := by decide +kernel
set_option maxRecDepth 65536 in
theorem w_t2 : ((words1.drop 24).take 24).all (fun c => isCode c || c.before args0 about1) = true := by decide +kernel
set_option maxRecDepth 65536 in
theorem w_t3 : (((words1.drop 24).drop 24).take 24).all (fun c => isCode c || c.before args0 about1) = true := by decide +kernel
set_option maxRecDepth 65536 in
theorem w_t4 : ((((words1.drop 24).drop 24).drop 24).take 24).all (fun c => isCode c || c.before args0 about1) = true := by decide +kernel
set_option maxRecDepth 65536 in
theorem w_t5 : (((((words1.drop 24).drop 24).drop 24).drop 24).take 24).all (fun c => isCode c || c.before args0 about1) = true := by decide +kernel
set_option maxRecDepth 65536 in
theorem w_t6 : ((((((words1.drop 24).drop 24).drop 24).drop 24).drop 24).take 24).all (fun c => isCode c || c.before args0 about1) = true := by decide +kernel
set_option maxRecDepth 65536 in
theorem w_t7 : (((((((words1.drop 24).drop 24).drop 24).drop 24).drop 24).drop 24).take 24).all (fun c => isCode c || c.before args0 about1) = true := by decide +kernel
set_option maxRecDepth 65536 in
theorem w_t8 : (((((((words1.drop 24).drop 24).drop 24).drop 24).drop 24).drop 24).drop 24).all (fun c => isCode c || c.before args0 about1) = true := by decide +kernel
theorem w_tables : (allAtoms (Jvm.Cond.code x code maxLocals ret :: tables_1)).before args0 about1 = true := by
  rw [allAtoms_all]
  show words1.all (fun c => c.before args0 about1) = true
  refine all_split ?_ w_codes
  rw [← List.take_append_drop 24 words1, List.all_append, w_t1, ← List.take_append_drop 24 (words1.drop 24), List.all_append, w_t2, ← List.take_append_drop 24 ((words1.drop 24).drop 24), List.all_append, w_t3, ← List.take_append_drop 24 (((words1.drop 24).drop 24).drop 24), List.all_append, w_t4, ← List.take_append_drop 24 ((((words1.drop 24).drop 24).drop 24).drop 24), List.all_append, w_t5, ← List.take_append_drop 24 (((((words1.drop 24).drop 24).drop 24).drop 24).drop 24), List.all_append, w_t6, ← List.take_append_drop 24 ((((((words1.drop 24).drop 24).drop 24).drop 24).drop 24).drop 24), List.all_append, w_t7, w_t8]
  rfl
set_option maxRecDepth 65536 in
theorem w_rest : rest_1_c.before args0 about1 = true := by decide +kernel
set_option maxRecDepth 65536 in
theorem w_case : (Jvm.Cond.and given_1 narrow_1).before args0 about1 = true := by decide +kernel
theorem w_applies : (headSpec (Jvm.Cond.code x code maxLocals ret :: tables_1) room_1).applies x e0.platform about1 = true :=
  (Spec.applies_iff w_frames).mpr ⟨w_running, w_runnable, w_alone, w_named, w_hears, w_ripe, w_room, w_tables⟩
theorem atStart : AtStart classFile x code maxLocals ret World_1 tables_1 room_1 Calls_1 rest_1 Pre_1 launch0 p0 e0 about1 theMethod args0 below0 :=
  ⟨lists_1, trivial, launch0.admits_env _ _ _, launch0.least_env, fairChoices_fair.cas, fairChoices_fair.clock, w_frames, w_args, w_heap, w_applies, trivial, w_rest, w_case⟩
end start1
theorem witness_1 : WitnessClaimed_1 := ⟨start1.p0, start1.e0, start1.about1, start1.theMethod, start1.args0, start1.below0, start1.atStart⟩
end Jvm.Pilot.@@N@@
