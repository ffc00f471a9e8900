import JvmDerived
import JvmDerived.Pilot.@@N@@Statement
import JvmDerived.Pilot.@@N@@Code
set_option linter.unusedVariables false
set_option linter.unusedSimpArgs false
@@BLOCK:NumsL.lean.txt@@
namespace Jvm.LM
open Sem ClassFile Op Lib Jvm.Stand Jvm.Free Jvm.LawKit Jvm.RoadKit
/-! A small machine over plain data that mirrors the bytecode of one class and of a law over it. -/
abbrev Lv := List (Option Value)
abbrev St := (Nat → Nat → Int32) × (Nat → Nat → Int64)
abbrev Cd := List (Nat × Instr × Nat)
/-- name, descriptor, kind (0 int, 1 boolean, 2 long, 3+j the j-th array), final -/
abbrev Fe := String × String × Nat × Bool
/-- name, descriptor, number of arguments, return kind (0 none, 1 int, 2 boolean, 3 long), code, max_locals, room: frames, locals -/
abbrev Me := String × String × Nat × Nat × Cd × Nat × Nat × Nat
/-- class name, fields, arrays (kind, length), pool to field, pool to method, pool to constant, methods, pool index of Object's constructor -/
abbrev Cl := String × List (Nat × Fe) × List (Nat × Nat) × List (Nat × Nat) × List (Nat × Nat) × List (Nat × Value) × List (Nat × Me) × Nat
def Me.nm (m : Me) : String := m.1
def Me.ds (m : Me) : String := m.2.1
def Me.na (m : Me) : Nat := m.2.2.1
def Me.rt (m : Me) : Nat := m.2.2.2.1
def Me.cd (m : Me) : Cd := m.2.2.2.2.1
def Me.ml (m : Me) : Nat := m.2.2.2.2.2.1
def Me.rf (m : Me) : Nat := m.2.2.2.2.2.2.1
def Me.rl (m : Me) : Nat := m.2.2.2.2.2.2.2
def Cl.nm (P : Cl) : String := P.1
def Cl.fs (P : Cl) : List (Nat × Fe) := P.2.1
def Cl.al (P : Cl) : List (Nat × Nat) := P.2.2.1
def Cl.fx (P : Cl) : List (Nat × Nat) := P.2.2.2.1
def Cl.mx (P : Cl) : List (Nat × Nat) := P.2.2.2.2.1
def Cl.kx (P : Cl) : List (Nat × Value) := P.2.2.2.2.2.1
def Cl.ms (P : Cl) : List (Nat × Me) := P.2.2.2.2.2.2.1
def Cl.oi (P : Cl) : Nat := P.2.2.2.2.2.2.2
def gI (s : St) (c j : Nat) : Int32 := s.1 c j
def gL (s : St) (c j : Nat) : Int64 := s.2 c j
def sI (s : St) (c j : Nat) (v : Int32) : St := (fun a b => if a = c ∧ b = j then v else s.1 a b, s.2)
def sL (s : St) (c j : Nat) (v : Int64) : St := (s.1, fun a b => if a = c ∧ b = j then v else s.2 a b)
def s0 : St := (fun _ _ => 0, fun _ _ => 0)
def ix (i : Int32) : Nat := i.toNatClampNeg
abbrev inb (n : Nat) (i : Int32) : Prop := 0 ≤ i.toInt ∧ i.toInt < (n : Int)
def asc {α : Type} : List (Nat × α) → Nat → Option α
  | [], _ => none
  | (a, b) :: r, k => match Nat.beq a k with
    | true => some b
    | false => asc r k
def fetch : Cd → Nat → Option (Instr × Nat)
  | [], _ => none
  | (a, b) :: r, k => match Nat.beq a k with
    | true => some b
    | false => fetch r k
def ilen : Instr → Nat
  | .iload _ => 2 | .lload _ => 2 | .aload _ => 2 | .istore _ => 2 | .lstore _ => 2 | .astore _ => 2 | .bipush _ => 2 | .ldc _ => 2 | .newarray _ => 2
  | .sipush _ => 3 | .iinc _ _ => 3 | .goto _ => 3 | .ifCond _ _ => 3 | .if_icmp _ _ => 3 | .getfield _ => 3 | .putfield _ => 3
  | .invokevirtual _ => 3 | .invokespecial _ => 3 | .invokestatic _ => 3 | .new _ => 3 | .ldc2_w _ => 3
  | _ => 1
def isSw : Instr → Bool
  | .tableswitch _ _ _ _ => true
  | _ => false
def clr (ls : Lv) : Nat → Lv
  | 0 => ls
  | j + 1 => match ls[j]? with
    | some (some (.long _)) => ls.set j none
    | some (some (.double _)) => ls.set j none
    | _ => ls
/-- a store into the local variables: a long takes two -/
def stl (ls : Lv) (i : Nat) (v : Value) : Option Lv :=
  match v with
  | .long x => if i + 1 < ls.length then some (((clr ls i).set i (some (.long x))).set (i + 1) none) else none
  | w => if i < ls.length then some ((clr ls i).set i (some w)) else none
def br (cd : ClassFile.Cond) (x y : Int32) (a b : Nat) : Nat :=
  match cd with
  | .eq => if x = y then a else b
  | .ne => if x = y then b else a
  | .lt => if x < y then a else b
  | .ge => if x < y then b else a
  | .gt => if y < x then a else b
  | .le => if y < x then b else a
def jmp (pc : Nat) (o : Int) : Nat := ((pc : Int) + o).toNat
def qstep (i : Instr) (pc : Nat) (st : List Value) : Option (Nat × List Value) :=
  match i with
  | .iconst v => some (pc + 1, .int (Int32.ofInt v) :: st)
  | .bipush v => some (pc + 2, .int (Int8.ofInt v).toInt32 :: st)
  | .sipush v => some (pc + 3, .int (Int16.ofInt v).toInt32 :: st)
  | .lconst k => some (pc + 1, .long (Int64.ofNat k) :: st)
  | .iadd => match st with | .int y :: .int x :: r => some (pc + 1, .int (x + y) :: r) | _ => none
  | .isub => match st with | .int y :: .int x :: r => some (pc + 1, .int (x - y) :: r) | _ => none
  | .imul => match st with | .int y :: .int x :: r => some (pc + 1, .int (x * y) :: r) | _ => none
  | .iand => match st with | .int y :: .int x :: r => some (pc + 1, .int (x &&& y) :: r) | _ => none
  | .ior => match st with | .int y :: .int x :: r => some (pc + 1, .int (x ||| y) :: r) | _ => none
  | .ixor => match st with | .int y :: .int x :: r => some (pc + 1, .int (x ^^^ y) :: r) | _ => none
  | .ishl => match st with | .int y :: .int x :: r => some (pc + 1, .int (x <<< (y &&& 31)) :: r) | _ => none
  | .ishr => match st with | .int y :: .int x :: r => some (pc + 1, .int (x >>> (y &&& 31)) :: r) | _ => none
  | .iushr => match st with | .int y :: .int x :: r => some (pc + 1, .int (XT.ushr x y) :: r) | _ => none
  | .idiv => match st with | .int y :: .int x :: r => if y = 0 then none else some (pc + 1, .int (x / y) :: r) | _ => none
  | .irem => match st with | .int y :: .int x :: r => if y = 0 then none else some (pc + 1, .int (x % y) :: r) | _ => none
  | .ineg => match st with | .int x :: r => some (pc + 1, .int (-x) :: r) | _ => none
  | .ladd => match st with | .long y :: .long x :: r => some (pc + 1, .long (x + y) :: r) | _ => none
  | .lsub => match st with | .long y :: .long x :: r => some (pc + 1, .long (x - y) :: r) | _ => none
  | .lmul => match st with | .long y :: .long x :: r => some (pc + 1, .long (x * y) :: r) | _ => none
  | .land => match st with | .long y :: .long x :: r => some (pc + 1, .long (x &&& y) :: r) | _ => none
  | .lor => match st with | .long y :: .long x :: r => some (pc + 1, .long (x ||| y) :: r) | _ => none
  | .lxor => match st with | .long y :: .long x :: r => some (pc + 1, .long (x ^^^ y) :: r) | _ => none
  | .lshl => match st with | .int y :: .long x :: r => some (pc + 1, .long (x <<< (y.toInt64 &&& 63)) :: r) | _ => none
  | .lshr => match st with | .int y :: .long x :: r => some (pc + 1, .long (x >>> (y.toInt64 &&& 63)) :: r) | _ => none
  | .lushr => match st with | .int y :: .long x :: r => some (pc + 1, .long (XT.ushrL x y) :: r) | _ => none
  | .ldiv => match st with | .long y :: .long x :: r => if y = 0 then none else some (pc + 1, .long (x / y) :: r) | _ => none
  | .lneg => match st with | .long x :: r => some (pc + 1, .long (-x) :: r) | _ => none
  | .lcmp => match st with | .long y :: .long x :: r => some (pc + 1, .int (XT.cmpL x y) :: r) | _ => none
  | .i2l => match st with | .int x :: r => some (pc + 1, .long x.toInt64 :: r) | _ => none
  | .l2i => match st with | .long x :: r => some (pc + 1, .int x.toInt32 :: r) | _ => none
  | .dup => match st with | .int x :: r => some (pc + 1, .int x :: .int x :: r) | .ref x :: r => some (pc + 1, .ref x :: .ref x :: r) | _ => none
  | .pop => match st with | .int _ :: r => some (pc + 1, r) | .ref _ :: r => some (pc + 1, r) | _ => none
  | .goto o => if 0 ≤ (pc : Int) + o then some (jmp pc o, st) else none
  | .ifCond cd o => match st with | .int x :: r => if 0 ≤ (pc : Int) + o then some (br cd x 0 (jmp pc o) (pc + 3), r) else none | _ => none
  | .if_icmp cd o => match st with | .int y :: .int x :: r => if 0 ≤ (pc : Int) + o then some (br cd x y (jmp pc o) (pc + 3), r) else none | _ => none
  | .tableswitch d lo hi offs => match st with
    | .int x :: r => if x.toInt < lo ∨ x.toInt > hi then (if 0 ≤ (pc : Int) + d then some (jmp pc d, r) else none)
      else (match offs[(x.toInt - lo).toNat]? with | some o => if 0 ≤ (pc : Int) + o then some (jmp pc o, r) else none | none => none)
    | _ => none
  | _ => none
def pstep (i : Instr) (pc : Nat) (ls : Lv) (st : List Value) : Option (Nat × Lv × List Value) :=
  match i with
  | .iload_n k => match ls[k.val]? with | some (some (.int v)) => some (pc + 1, ls, .int v :: st) | _ => none
  | .iload k => match ls[k]? with | some (some (.int v)) => some (pc + 2, ls, .int v :: st) | _ => none
  | .lload_n k => match ls[k.val]? with | some (some (.long v)) => some (pc + 1, ls, .long v :: st) | _ => none
  | .lload k => match ls[k]? with | some (some (.long v)) => some (pc + 2, ls, .long v :: st) | _ => none
  | .aload_n k => match ls[k.val]? with | some (some (.ref v)) => some (pc + 1, ls, .ref v :: st) | _ => none
  | .aload k => match ls[k]? with | some (some (.ref v)) => some (pc + 2, ls, .ref v :: st) | _ => none
  | .istore_n k => match st with | .int v :: r => (match stl ls k.val (.int v) with | some l => some (pc + 1, l, r) | none => none) | _ => none
  | .istore k => match st with | .int v :: r => (match stl ls k (.int v) with | some l => some (pc + 2, l, r) | none => none) | _ => none
  | .lstore_n k => match st with | .long v :: r => (match stl ls k.val (.long v) with | some l => some (pc + 1, l, r) | none => none) | _ => none
  | .lstore k => match st with | .long v :: r => (match stl ls k (.long v) with | some l => some (pc + 2, l, r) | none => none) | _ => none
  | .astore_n k => match st with | .ref v :: r => (match stl ls k.val (.ref v) with | some l => some (pc + 1, l, r) | none => none) | _ => none
  | .astore k => match st with | .ref v :: r => (match stl ls k (.ref v) with | some l => some (pc + 2, l, r) | none => none) | _ => none
  | .iinc k d => match ls[k]? with | some (some (.int v)) => (match stl ls k (.int (v + Int32.ofInt d)) with | some l => some (pc + 3, l, st) | none => none) | _ => none
  | i => match qstep i pc st with | some (pc', st') => some (pc', ls, st') | none => none
/-- how the machine's references stand in the heap -/
def va (ρ : Nat → Nat) : Value → Value
  | .ref c => .ref (ρ c)
  | v => v
def WF (L : Array Slot) : Prop :=
  (∀ (k : Nat) (v : Value), L[k]? = some (Slot.val v) → v.category = 2 → L[k + 1]? = some .second) ∧
  (∀ k : Nat, L[k + 1]? = some Slot.second → ∃ v : Value, L[k]? = some (Slot.val v) ∧ v.category = 2) ∧ L[0]? ≠ some Slot.second
def LR (ρ : Nat → Nat) (ls : Lv) (L : Array Slot) : Prop :=
  L.size = ls.length ∧ (∀ (k : Nat) (v : Value), ls[k]? = some (some v) → L[k]? = some (Slot.val (va ρ v))) ∧ WF L
end Jvm.LM

namespace Jvm.LM
open Sem ClassFile Op Lib Jvm.Stand Jvm.Free Jvm.LawKit Jvm.RoadKit
/-! the local variables -/
def upd (f : Nat → Option Slot) (i : Nat) (x : Slot) : Nat → Option Slot := fun k => if k = i then some x else f k
def WFf (f : Nat → Option Slot) : Prop :=
  (∀ k v, f k = some (.val v) → v.category = 2 → f (k + 1) = some .second) ∧
  (∀ k, f (k + 1) = some .second → ∃ v, f k = some (.val v) ∧ v.category = 2) ∧ f 0 ≠ some .second
def clearF (f : Nat → Option Slot) (i : Nat) : Nat → Option Slot :=
  match f i with
  | some .second => upd (upd f (i - 1) .unset) i .unset
  | some (.val old) => if old.category = 2 then upd (upd f (i + 1) .unset) i .unset else upd f i .unset
  | _ => f
theorem clearF_cases (f : Nat → Option Slot) (i : Nat) : (f i = some .second ∧ clearF f i = upd (upd f (i - 1) .unset) i .unset) ∨ (∃ old, f i = some (.val old) ∧ old.category = 2 ∧ clearF f i = upd (upd f (i + 1) .unset) i .unset) ∨
    (∃ old, f i = some (.val old) ∧ old.category ≠ 2 ∧ clearF f i = upd f i .unset) ∨ ((f i = some .unset ∨ f i = none) ∧ clearF f i = f) := by
  cases h : f i with
  | none => exact Or.inr (Or.inr (Or.inr ⟨Or.inr rfl, by simp only [clearF, h]⟩))
  | some x =>
    cases x with
    | unset => exact Or.inr (Or.inr (Or.inr ⟨Or.inl rfl, by simp only [clearF, h]⟩))
    | second => exact Or.inl ⟨rfl, by simp only [clearF, h]⟩
    | val old =>
      by_cases hc : old.category = 2
      · exact Or.inr (Or.inl ⟨old, rfl, hc, by simp only [clearF, h]; rw [if_pos hc]⟩)
      · exact Or.inr (Or.inr (Or.inl ⟨old, rfl, hc, by simp only [clearF, h]; rw [if_neg hc]⟩))
theorem wff_clear {f : Nat → Option Slot} (h : WFf f) (i : Nat) : WFf (clearF f i) := by
  obtain ⟨h1, h2, h3⟩ := h
  unfold clearF
  split
  · rename_i e
    cases i with
    | zero => exact absurd e h3
    | succ j =>
      refine ⟨fun k v hk hc => ?_, fun k hk => ?_, ?_⟩
      · simp only [upd, Nat.add_sub_cancel] at hk ⊢
        have := h1 k v
        by_cases a : k = j + 1
        · simp [a] at hk
        · by_cases b : k = j
          · simp [b] at hk
          · have c : k + 1 ≠ j + 1 := by omega
            simp only [a, b, if_false] at hk
            by_cases d : k + 1 = j
            · have := h1 k v hk hc
              obtain ⟨w, hw, hw2⟩ := h2 j e
              rw [d, hw] at this; cases this
            · simp [c, d, b, h1 k v hk hc]
      · simp only [upd, Nat.add_sub_cancel] at hk ⊢
        by_cases a : k = j
        · simp [a] at hk
        · by_cases b : k + 1 = j
          · simp [b] at hk
          · simp only [show ¬ (k + 1 = j + 1) by omega, b, if_false] at hk
            obtain ⟨w, hw, hw2⟩ := h2 k hk
            by_cases d : k = j + 1
            · rw [d, e] at hw; cases hw
            · exact ⟨w, by simp [d, a, hw], hw2⟩
      · simp only [upd, Nat.add_sub_cancel]
        by_cases b : 0 = j
        · simp [← b]
        · simp [b, h3]
  · rename_i old e
    split
    · rename_i hc2
      have e2 := h1 i old e hc2
      refine ⟨fun k v hk hc => ?_, fun k hk => ?_, ?_⟩
      · simp only [upd] at hk ⊢
        by_cases a : k = i
        · simp [a] at hk
        · by_cases b : k = i + 1
          · simp [b] at hk
          · simp only [a, b, if_false] at hk
            have q := h1 k v hk hc
            by_cases d : k + 1 = i
            · rw [d, e] at q; cases q
            · simp [d, a, show ¬ (k + 1 = i + 1) by omega, q]
      · simp only [upd] at hk ⊢
        by_cases a : k + 1 = i
        · simp [a] at hk
        · by_cases b : k = i
          · simp [b] at hk
          · simp only [a, show ¬ (k + 1 = i + 1) by omega, if_false] at hk
            obtain ⟨w, hw, hw2⟩ := h2 k hk
            by_cases d : k = i + 1
            · rw [d, e2] at hw; cases hw
            · exact ⟨w, by simp [d, b, hw], hw2⟩
      · simp only [upd]
        by_cases b : 0 = i
        · simp [← b]
        · simp [b, h3]
    · rename_i hc2
      refine ⟨fun k v hk hc => ?_, fun k hk => ?_, ?_⟩
      · simp only [upd] at hk ⊢
        by_cases a : k = i
        · simp [a] at hk
        · simp only [a, if_false] at hk
          have q := h1 k v hk hc
          by_cases d : k + 1 = i
          · rw [d, e] at q; cases q
          · simp [d, q]
      · simp only [upd] at hk ⊢
        by_cases a : k + 1 = i
        · simp [a] at hk
        · simp only [a, if_false] at hk
          obtain ⟨w, hw, hw2⟩ := h2 k hk
          by_cases d : k = i
          · rw [d, e] at hw; cases hw; exact absurd hw2 hc2
          · exact ⟨w, by simp [d, hw], hw2⟩
      · simp only [upd]
        by_cases b : 0 = i
        · simp [← b]
        · simp [b, h3]
  · exact ⟨h1, h2, h3⟩
theorem wff_one {f : Nat → Option Slot} (h : WFf f) {i : Nat} (e : f i = some .unset) {v : Value} (hv : v.category ≠ 2) : WFf (upd f i (.val v)) := by
  obtain ⟨h1, h2, h3⟩ := h
  refine ⟨fun k w hk hc => ?_, fun k hk => ?_, ?_⟩
  · simp only [upd] at hk ⊢
    by_cases a : k = i
    · simp only [a, if_true, Option.some.injEq, Slot.val.injEq] at hk; subst hk; exact absurd hc hv
    · simp only [a, if_false] at hk
      have q := h1 k w hk hc
      by_cases d : k + 1 = i
      · rw [d, e] at q; cases q
      · simp [d, q]
  · simp only [upd] at hk ⊢
    by_cases a : k + 1 = i
    · simp [a] at hk
    · simp only [a, if_false] at hk
      obtain ⟨w, hw, hw2⟩ := h2 k hk
      by_cases d : k = i
      · rw [d, e] at hw; cases hw
      · exact ⟨w, by simp [d, hw], hw2⟩
  · simp only [upd]
    by_cases b : 0 = i
    · simp [← b]
    · simp [b, h3]
theorem wff_two {f : Nat → Option Slot} (h : WFf f) {i : Nat} (e : f i = some .unset) (e' : f (i + 1) = some .unset) {v : Value} (hv : v.category = 2) : WFf (upd (upd f i (.val v)) (i + 1) .second) := by
  obtain ⟨h1, h2, h3⟩ := h
  refine ⟨fun k w hk hc => ?_, fun k hk => ?_, ?_⟩
  · simp only [upd] at hk ⊢
    by_cases a : k = i + 1
    · simp [a] at hk
    · by_cases b : k = i
      · simp [b]
      · simp only [a, b, if_false] at hk
        have q := h1 k w hk hc
        by_cases d : k + 1 = i
        · rw [d, e] at q; cases q
        · simp [d, show ¬ (k + 1 = i + 1) by omega, q]
  · simp only [upd] at hk ⊢
    by_cases a : k = i
    · exact ⟨v, by simp [a], hv⟩
    · by_cases b : k + 1 = i
      · simp [b] at hk
      · simp only [show ¬ (k + 1 = i + 1) by omega, b, if_false] at hk
        obtain ⟨w, hw, hw2⟩ := h2 k hk
        by_cases d : k = i + 1
        · rw [d, e'] at hw; cases hw
        · exact ⟨w, by simp [d, a, hw], hw2⟩
  · simp only [upd]
    by_cases b : 0 = i
    · simp [← b]
    · simp [b, h3]
theorem gset (L : Array Slot) {i : Nat} (hi : i < L.size) (x : Slot) : (fun k => (L.setIfInBounds i x)[k]?) = upd (fun k => L[k]?) i x := by
  funext k
  simp only [upd, Array.getElem?_setIfInBounds]
  by_cases a : i = k
  · subst a; simp [hi]
  · simp [a, show ¬ k = i from fun h => a h.symm]
theorem sl_eq (L : Array Slot) (i : Nat) (v : Value) : storeLocals L i v = (L[i]?).bind (fun x => match x with
    | .second => (setAt L (i - 1) .unset).bind (fun l => storeSelf l i v)
    | .val old => if old.category = 2 then (setAt L (i + 1) .unset).bind (fun l => storeSelf l i v) else storeSelf L i v
    | .unset => storeSelf L i v) := rfl
theorem ss_eq (L : Array Slot) (i : Nat) (v : Value) : storeSelf L i v = (setAt L i (.val v)).bind (fun l => if v.category = 2 then (l[i + 1]?).bind (fun x => match x with
    | .val old => if old.category = 2 then (setAt l (i + 2) .unset).bind (fun l' => setAt l' (i + 1) .second) else setAt l (i + 1) .second
    | _ => setAt l (i + 1) .second) else some l) := rfl
theorem sa_eq {L : Array Slot} {i : Nat} (hi : i < L.size) (x : Slot) : setAt L i x = some (L.setIfInBounds i x) := if_pos hi
theorem upd_upd (f : Nat → Option Slot) (i : Nat) (x y : Slot) : upd (upd f i x) i y = upd f i y := by
  funext k; simp only [upd]; split <;> rfl
/-- what a store clears first -/
theorem clear_ok {L : Array Slot} (hW : WF L) {i : Nat} (hi : i < L.size) (v : Value) : ∃ L1, storeLocals L i v = storeSelf L1 i v ∧ L1.size = L.size ∧ upd (fun k => L1[k]?) i .unset = upd (clearF (fun k => L[k]?) i) i .unset := by
  have hh : WFf (fun k => L[k]?) := hW
  obtain ⟨sl, hsl⟩ : ∃ sl, L[i]? = some sl := ⟨L[i], Array.getElem?_eq_getElem hi⟩
  rw [sl_eq, hsl, Option.bind_some]
  cases sl with
  | unset => exact ⟨L, rfl, rfl, by simp only [clearF, hsl]⟩
  | second =>
    refine ⟨L.setIfInBounds (i - 1) .unset, ?_, by simp, ?_⟩
    · show (setAt L (i - 1) .unset).bind _ = _
      rw [sa_eq (by omega)]; rfl
    · rw [gset _ (by omega)]; simp only [clearF, hsl, upd_upd]
  | val old =>
    by_cases hc : old.category = 2
    · have h2 := hh.1 i old hsl hc
      have hlt : i + 1 < L.size := (Array.getElem?_eq_some_iff.mp h2).1
      refine ⟨L.setIfInBounds (i + 1) .unset, ?_, by simp, ?_⟩
      · show (if old.category = 2 then _ else _) = _
        rw [if_pos hc, sa_eq hlt]; rfl
      · rw [gset _ hlt]; simp only [clearF, hsl, hc, if_true, upd_upd]
    · refine ⟨L, ?_, rfl, ?_⟩
      · show (if old.category = 2 then _ else _) = _
        rw [if_neg hc]
      · simp only [clearF, hsl, hc, if_false, upd_upd]
theorem clearF_at {f : Nat → Option Slot} {i : Nat} (hi : f i ≠ none) : clearF f i i = some .unset := by
  rcases clearF_cases f i with ⟨h1, h2⟩ | ⟨old, h1, h3, h2⟩ | ⟨old, h1, h3, h2⟩ | ⟨h1 | h1, h2⟩
  · rw [h2]; simp [upd]
  · rw [h2]; simp [upd]
  · rw [h2]; simp [upd]
  · rw [h2]; exact h1
  · exact absurd h1 hi
theorem clearF_self {f : Nat → Option Slot} {i : Nat} (hi : f i ≠ none) : upd (clearF f i) i .unset = clearF f i := by
  funext k; simp only [upd]; split
  · rename_i e; rw [e]; exact (clearF_at hi).symm
  · rfl
/-- the other variables: kept, or they held (a part of) a long -/
theorem clearF_keep {f : Nat → Option Slot} (h : WFf f) {i k : Nat} {w : Value} (hk : k ≠ i) (e : f k = some (.val w)) (hw : k + 1 = i → w.category ≠ 2) : clearF f i k = some (.val w) := by
  rcases clearF_cases f i with ⟨e2, h2⟩ | ⟨old, e2, hc, h2⟩ | ⟨old, e2, hc, h2⟩ | ⟨-, h2⟩
  · rw [h2]
    cases i with
    | zero => exact absurd e2 h.2.2
    | succ j =>
      simp only [upd, Nat.add_sub_cancel, hk, if_false]
      split
      · rename_i hj; subst hj
        obtain ⟨v, hv, hv2⟩ := h.2.1 k e2
        rw [e] at hv; cases hv; exact absurd hv2 (hw rfl)
      · exact e
  · rw [h2]
    have q := h.1 i old e2 hc
    simp only [upd, hk, if_false]
    split
    · rename_i hj; rw [hj, q] at e; cases e
    · exact e
  · rw [h2]; simp [upd, hk, e]
  · rw [h2]; exact e
theorem store_one {L : Array Slot} (hW : WF L) {i : Nat} (hi : i < L.size) {v : Value} (hv : v.category ≠ 2) :
    ∃ L', storeLocals L i v = some L' ∧ L'.size = L.size ∧ WF L' ∧ (fun k => L'[k]?) = upd (clearF (fun k => L[k]?) i) i (.val v) := by
  obtain ⟨L1, h1, h2, h3⟩ := clear_ok hW hi v
  have hne : (fun k => L[k]?) i ≠ none := by simp; omega
  have hi1 : i < L1.size := by omega
  refine ⟨L1.setIfInBounds i (.val v), ?_, by simp [h2], ?_, ?_⟩
  · rw [h1, ss_eq, sa_eq hi1, Option.bind_some, if_neg hv]
  · have q : (fun k => (L1.setIfInBounds i (.val v))[k]?) = upd (clearF (fun k => L[k]?) i) i (.val v) := by
      rw [gset _ hi1, ← upd_upd _ i .unset, h3, upd_upd]
    have w : WFf (fun k => (L1.setIfInBounds i (.val v))[k]?) := by
      rw [q]; exact wff_one (wff_clear hW i) (clearF_at hne) hv
    exact w
  · rw [gset _ hi1, ← upd_upd _ i .unset, h3, upd_upd]
theorem store_two {L : Array Slot} (hW : WF L) {i : Nat} (hi : i + 1 < L.size) {v : Value} (hv : v.category = 2) :
    ∃ L', storeLocals L i v = some L' ∧ L'.size = L.size ∧ WF L' ∧ (fun k => L'[k]?) = upd (upd (clearF (clearF (fun k => L[k]?) i) (i + 1)) i (.val v)) (i + 1) .second := by
  obtain ⟨L1, h1, h2, h3⟩ := clear_ok hW (show i < L.size by omega) v
  have hne : (fun k => L[k]?) i ≠ none := by simp; omega
  have hi1 : i < L1.size := by omega
  have hi2 : i + 1 < L1.size := by omega
  rw [clearF_self hne] at h3
  have hWc := wff_clear (f := fun k => L[k]?) hW i
  generalize hF : clearF (fun k => L[k]?) i = F at *
  have hFi : F i = some .unset := by rw [← hF]; exact clearF_at hne
  have g1 : (fun k => (L1.setIfInBounds i (.val v))[k]?) = upd F i (.val v) := by rw [gset _ hi1, ← upd_upd _ i .unset, h3]
  have g2 : (L1.setIfInBounds i (.val v))[i + 1]? = F (i + 1) := by
    have := congrFun g1 (i + 1); simpa [upd] using this
  have hFi1 : F (i + 1) ≠ none := by
    have : (L1.setIfInBounds i (.val v))[i + 1]? ≠ none := by simp; omega
    rw [g2] at this; exact this
  have hns : F (i + 1) ≠ some .second := fun q => by
    obtain ⟨w, hw, -⟩ := hWc.2.1 i q
    rw [hFi] at hw; cases hw
  have key : ∀ G : Nat → Option Slot, WFf G → G i = some .unset → G (i + 1) = some .unset → G = clearF F (i + 1) → WFf (upd (upd (clearF F (i + 1)) i (.val v)) (i + 1) .second) := fun G hG a b e => by rw [← e]; exact wff_two hG a b hv
  have hcl := wff_clear hWc (i + 1)
  have hcli : clearF F (i + 1) i = some .unset := by
    rcases clearF_cases F (i + 1) with ⟨q, h2⟩ | ⟨old, q, hc, h2⟩ | ⟨old, q, hc, h2⟩ | ⟨-, h2⟩
    · exact absurd q hns
    · rw [h2]; simp [upd, hFi]
    · rw [h2]; simp [upd, hFi]
    · rw [h2]; exact hFi
  have hWF := wff_two hcl hcli (clearF_at hFi1) hv
  rw [h1, ss_eq, sa_eq hi1, Option.bind_some, if_pos hv, g2]
  cases hx : F (i + 1) with
  | none => exact absurd hx hFi1
  | some sl =>
    cases sl with
    | second => exact absurd hx hns
    | unset =>
      have e1 : clearF F (i + 1) = F := by simp only [clearF, hx]
      have e3 : (fun k => ((L1.setIfInBounds i (.val v)).setIfInBounds (i + 1) .second)[k]?) = upd (upd (clearF F (i + 1)) i (.val v)) (i + 1) .second := by
        rw [gset _ (by simpa using hi2), g1, e1]
      refine ⟨(L1.setIfInBounds i (.val v)).setIfInBounds (i + 1) .second, ?_, by simp [h2], ?_, e3⟩
      · show setAt _ (i + 1) .second = _
        rw [sa_eq (by simpa using hi2)]
      · have w : WFf (fun k => ((L1.setIfInBounds i (.val v)).setIfInBounds (i + 1) .second)[k]?) := by rw [e3]; exact hWF
        exact w
    | val old =>
      by_cases hc : old.category = 2
      · have q := hWc.1 _ _ hx hc
        have hi3 : i + 2 < L1.size := by
          have q2 : (L1.setIfInBounds i (.val v))[i + 2]? = some .second := by
            have := congrFun g1 (i + 2); simpa [upd, q] using this
          have := (Array.getElem?_eq_some_iff.mp q2).1
          simpa using this
        have e1 : clearF F (i + 1) = upd (upd F (i + 2) .unset) (i + 1) .unset := by simp only [clearF, hx, hc, if_true]
        have e3 : (fun k => (((L1.setIfInBounds i (.val v)).setIfInBounds (i + 2) .unset).setIfInBounds (i + 1) .second)[k]?) = upd (upd (clearF F (i + 1)) i (.val v)) (i + 1) .second := by
          rw [gset _ (by simpa using hi2), gset _ (by simpa using hi3), g1, e1]
          funext k; simp only [upd]
          by_cases a : k = i + 1
          · simp [a]
          · by_cases b : k = i
            · simp [b]
            · simp [a, b]
        refine ⟨((L1.setIfInBounds i (.val v)).setIfInBounds (i + 2) .unset).setIfInBounds (i + 1) .second, ?_, by simp [h2], ?_, e3⟩
        · show (if old.category = 2 then _ else _) = _
          rw [if_pos hc, sa_eq (by simpa using hi3), Option.bind_some, sa_eq (by simpa using hi2)]
        · have w : WFf (fun k => (((L1.setIfInBounds i (.val v)).setIfInBounds (i + 2) .unset).setIfInBounds (i + 1) .second)[k]?) := by rw [e3]; exact hWF
          exact w
      · have e1 : clearF F (i + 1) = upd F (i + 1) .unset := by simp only [clearF, hx, hc, if_false]
        have e3 : (fun k => ((L1.setIfInBounds i (.val v)).setIfInBounds (i + 1) .second)[k]?) = upd (upd (clearF F (i + 1)) i (.val v)) (i + 1) .second := by
          rw [gset _ (by simpa using hi2), g1, e1]
          funext k; simp only [upd]
          by_cases a : k = i + 1
          · simp [a]
          · by_cases b : k = i
            · simp [b]
            · simp [a, b]
        refine ⟨(L1.setIfInBounds i (.val v)).setIfInBounds (i + 1) .second, ?_, by simp [h2], ?_, e3⟩
        · show (if old.category = 2 then _ else _) = _
          rw [if_neg hc, sa_eq (by simpa using hi2)]
        · have w : WFf (fun k => ((L1.setIfInBounds i (.val v)).setIfInBounds (i + 1) .second)[k]?) := by rw [e3]; exact hWF
          exact w
theorem cat_va (ρ : Nat → Nat) (v : Value) : (va ρ v).category = v.category := by cases v <;> rfl
theorem clr_len (ls : Lv) (i : Nat) : (clr ls i).length = ls.length := by
  cases i with
  | zero => rfl
  | succ j => simp only [clr]; split <;> simp
theorem clr_get {ls : Lv} {i k : Nat} {v : Value} (h : (clr ls i)[k]? = some (some v)) : ls[k]? = some (some v) ∧ (k + 1 = i → v.category ≠ 2) := by
  cases i with
  | zero => exact ⟨h, fun q => by omega⟩
  | succ j =>
    simp only [clr] at h
    split at h
    · rename_i x e
      rw [List.getElem?_set] at h
      split at h
      · rename_i hj; subst hj; split at h <;> simp at h
      · rename_i hj; exact ⟨h, fun q => by omega⟩
    · rename_i x e
      rw [List.getElem?_set] at h
      split at h
      · rename_i hj; subst hj; split at h <;> simp at h
      · rename_i hj; exact ⟨h, fun q => by omega⟩
    · rename_i e1 e2
      refine ⟨h, fun q hc => ?_⟩
      have hk : k = j := by omega
      subst hk
      cases v <;> first | exact e1 _ h | exact e2 _ h | (exact Nat.noConfusion (Nat.succ.inj hc))
theorem store_ok {ρ : Nat → Nat} {ls ls' : Lv} {L : Array Slot} {i : Nat} {v : Value} (hL : LR ρ ls L) (hd : ∀ x, v ≠ .double x) (h : stl ls i v = some ls') : ∃ L', storeLocals L i (va ρ v) = some L' ∧ LR ρ ls' L' ∧ L'.size = L.size := by
  obtain ⟨hz, hr, hW⟩ := hL
  have hWf : WFf (fun k => L[k]?) := hW
  by_cases hc : v.category = 2
  · obtain ⟨x, rfl⟩ : ∃ x, v = .long x := by cases v <;> simp [Value.category] at hc <;> first | exact ⟨_, rfl⟩ | exact absurd rfl (hd _)
    simp only [stl] at h
    split at h
    · rename_i hi
      cases h
      obtain ⟨L', a1, a2, a3, a4⟩ := store_two hW (show i + 1 < L.size by omega) (v := va ρ (.long x)) rfl
      refine ⟨L', a1, ⟨by simp [a2, hz, clr_len], fun k w hk => ?_, a3⟩, a2⟩
      have q : L'[k]? = _ := congrFun a4 k
      rw [q]
      rw [List.getElem?_set] at hk
      split at hk
      · simp at hk
      · rename_i hk1
        rw [List.getElem?_set] at hk
        split at hk
        · rename_i hk2; subst hk2
          simp only [clr_len] at hk
          split at hk
          · cases hk; simp [upd]
          · simp at hk
        · rename_i hk2
          obtain ⟨b1, b2⟩ := clr_get hk
          have b3 := hr _ _ b1
          have b4 : clearF (fun k => L[k]?) i k = some (.val (va ρ w)) := clearF_keep hWf (fun q => hk2 q.symm) b3 (fun q => by rw [cat_va]; exact b2 q)
          have b5 := clearF_keep (wff_clear hWf i) (i := i + 1) (fun q => hk1 q.symm) b4 (fun q => absurd (Nat.succ.inj q) fun z => hk2 z.symm)
          simp only [upd, show ¬ k = i + 1 from fun q => hk1 q.symm, show ¬ k = i from fun q => hk2 q.symm, if_false]
          exact b5
    · cases h
  · have hs : stl ls i v = if i < ls.length then some ((clr ls i).set i (some v)) else none := by cases v <;> first | rfl | exact absurd rfl hc
    rw [hs] at h
    split at h
    · rename_i hi
      cases h
      obtain ⟨L', a1, a2, a3, a4⟩ := store_one hW (show i < L.size by omega) (v := va ρ v) (by rw [cat_va]; exact hc)
      refine ⟨L', a1, ⟨by simp [a2, hz, clr_len], fun k w hk => ?_, a3⟩, a2⟩
      have q : L'[k]? = _ := congrFun a4 k
      rw [q]
      rw [List.getElem?_set] at hk
      split at hk
      · rename_i hk2; subst hk2
        simp only [clr_len] at hk
        split at hk
        · cases hk; simp [upd]
        · omega
      · rename_i hk2
        obtain ⟨b1, b2⟩ := clr_get hk
        have b3 := hr _ _ b1
        have b4 : clearF (fun k => L[k]?) i k = some (.val (va ρ w)) := clearF_keep hWf (fun q => hk2 q.symm) b3 (fun q => by rw [cat_va]; exact b2 q)
        simp only [upd, show ¬ k = i from fun q => hk2 q.symm, if_false]
        exact b4
    · cases h
end Jvm.LM

namespace Jvm.LM
open Sem ClassFile Op Lib Jvm.Stand Jvm.Free Jvm.LawKit Jvm.RoadKit
section Pure
variable {p : Program} {l : Launch} {e : Env} {R : Room} {s : State} {m : MethodId} {args : Array Value} {below : List Frame} {meth : Method} {c : Code} {T : State} {locs : List Loc} {cells slots : Nat}
theorem br_eq (cd : ClassFile.Cond) (x y : Int32) (a b : Nat) : br cd x y a b = if if_icmp.holds cd x y = true then a else b := by
  cases cd <;> simp only [br]
  · by_cases h : x = y <;> simp [h, XT.ii_eq_t, XT.ii_eq_f]
  · by_cases h : x = y
    · rw [if_pos h, XT.ii_ne_f h]; rfl
    · rw [if_neg h, XT.ii_ne_t h]; rfl
  · by_cases h : x < y
    · rw [if_pos h, XT.ii_lt_t h]; rfl
    · rw [if_neg h, XT.ii_lt_f h]; rfl
  · by_cases h : x < y
    · rw [if_pos h, XT.ii_ge_f h]; rfl
    · rw [if_neg h, XT.ii_ge_t h]; rfl
  · by_cases h : y < x
    · rw [if_pos h, XT.ii_gt_t h]; rfl
    · rw [if_neg h, XT.ii_gt_f h]; rfl
  · by_cases h : y < x
    · rw [if_pos h, XT.ii_le_f h]; rfl
    · rw [if_neg h, XT.ii_le_t h]; rfl
theorem qstep_sound (X : Stand p l e R s m args below meth c T locs cells slots) (hx : p.tables.exec = Jvm.exec) {ρ : Nat → Nat} {i : Instr} {n pc pc' : Nat} {st st' : List Value}
    (h : qstep i pc st = some (pc', st')) (hd : decode c.code pc = .ok (i, n)) (hn : isSw i = true ∨ n = ilen i) {L : Array Slot} :
    ∀ target, Steps p.tables e below (T.setTop (mkF m pc' L (st'.map (va ρ)))) target → Steps p.tables e below (T.setTop (mkF m pc L (st.map (va ρ)))) target := by
  by_cases hsw : isSw i = true
  · cases i <;> first | exact absurd hsw Bool.false_ne_true | skip
    rename_i d lo hi offs
    simp only [qstep] at h
    split at h
    · rename_i x r
      split at h
      · rename_i e1
        split at h
        · rename_i e2; cases h; exact fun t q => X.tableswitchOut hx (g := mkF m pc L (.int x :: List.map (va ρ) _)) rfl rfl hd e1 e2 t q
        · cases h
      · rename_i e1
        split at h
        · rename_i o e2
          split at h
          · rename_i e3; cases h; exact fun t q => X.tableswitchIn hx (g := mkF m pc L (.int x :: List.map (va ρ) _)) rfl rfl hd e1 e2 e3 t q
          · cases h
        · cases h
    · cases h
  obtain rfl := hn.resolve_left hsw
  unfold qstep at h
  split at h
  -- constants
  · cases h; exact fun t q => XS.iconst X.here hx rfl hd q
  · cases h; exact fun t q => XS.bipush X.here hx rfl hd q
  · cases h; exact fun t q => XS.sipush X.here hx rfl hd q
  · cases h; exact fun t q => XT.lconst X.here hx rfl hd q
  -- ints
  · split at h
    · cases h; exact fun t q => XS.iadd X.here hx rfl hd rfl q
    · cases h
  · split at h
    · cases h; exact fun t q => XS.isub X.here hx rfl hd rfl q
    · cases h
  · split at h
    · cases h; exact fun t q => XS.imul X.here hx rfl hd rfl q
    · cases h
  · split at h
    · cases h; exact fun t q => XS.iand X.here hx rfl hd rfl q
    · cases h
  · split at h
    · cases h; exact fun t q => XT.ior X.here hx rfl hd rfl q
    · cases h
  · split at h
    · cases h; exact fun t q => XT.ixor X.here hx rfl hd rfl q
    · cases h
  · split at h
    · cases h; exact fun t q => XT.ishl X.here hx rfl hd rfl q
    · cases h
  · split at h
    · cases h; exact fun t q => XT.ishr X.here hx rfl hd rfl q
    · cases h
  · split at h
    · cases h; exact fun t q => XT.iushr X.here hx rfl hd rfl q
    · cases h
  · split at h
    · split at h
      · cases h
      · rename_i e1; cases h; exact fun t q => XS.idiv X.here hx rfl hd rfl e1 q
    · cases h
  · split at h
    · split at h
      · cases h
      · rename_i e1; cases h; exact fun t q => iremM X hx rfl hd rfl e1 q
    · cases h
  · split at h
    · cases h; exact fun t q => XS.ineg X.here hx rfl hd rfl q
    · cases h
  -- longs
  · split at h
    · cases h; exact fun t q => XT.ladd X.here hx rfl hd rfl q
    · cases h
  · split at h
    · cases h; exact fun t q => XT.lsub X.here hx rfl hd rfl q
    · cases h
  · split at h
    · cases h; exact fun t q => XT.lmul X.here hx rfl hd rfl q
    · cases h
  · split at h
    · cases h; exact fun t q => XT.land X.here hx rfl hd rfl q
    · cases h
  · split at h
    · cases h; exact fun t q => XT.lor X.here hx rfl hd rfl q
    · cases h
  · split at h
    · cases h; exact fun t q => XT.lxor X.here hx rfl hd rfl q
    · cases h
  · split at h
    · cases h; exact fun t q => XT.lshl X.here hx rfl hd rfl q
    · cases h
  · split at h
    · cases h; exact fun t q => XT.lshr X.here hx rfl hd rfl q
    · cases h
  · split at h
    · cases h; exact fun t q => XT.lushr X.here hx rfl hd rfl q
    · cases h
  · split at h
    · split at h
      · cases h
      · rename_i e1; cases h; exact fun t q => XT.ldiv X.here hx rfl hd rfl e1 q
    · cases h
  · split at h
    · cases h; exact fun t q => XT.lneg X.here hx rfl hd rfl q
    · cases h
  · split at h
    · cases h; exact fun t q => XT.lcmp X.here hx rfl hd rfl q
    · cases h
  · split at h
    · cases h; exact fun t q => XT.i2l X.here hx rfl hd rfl q
    · cases h
  · split at h
    · cases h; exact fun t q => XT.l2i X.here hx rfl hd rfl q
    · cases h
  -- dup, pop
  · split at h
    · cases h; exact fun t q => XS.dup X.here hx rfl hd rfl rfl q
    · cases h; exact fun t q => XS.dup X.here hx rfl hd rfl rfl q
    · cases h
  · split at h
    · cases h; exact fun t q => XT.pop X.here hx rfl hd rfl rfl q
    · cases h; exact fun t q => XT.pop X.here hx rfl hd rfl rfl q
    · cases h
  -- jumps
  · split at h
    · rename_i e1; cases h; exact fun t q => XS.goto X.here hx rfl rfl hd e1 rfl q
    · cases h
  · split at h
    · split at h
      · rename_i e1; cases h
        intro t q
        rw [br_eq] at q
        split at q
        · rename_i e2; exact XS.ifYes X.here hx rfl rfl hd rfl (by rw [if0]; exact e2) e1 rfl q
        · rename_i e2; exact XS.ifNo X.here hx rfl hd rfl (by rw [if0]; simpa using e2) q
      · cases h
    · cases h
  · split at h
    · split at h
      · rename_i e1; cases h
        intro t q
        rw [br_eq] at q
        split at q
        · rename_i e2; exact XS.icmpYes X.here hx rfl rfl hd rfl e2 e1 rfl q
        · rename_i e2; exact XS.icmpNo X.here hx rfl hd rfl (by simpa using e2) q
      · cases h
    · cases h
  · exact absurd rfl hsw
  · cases h
theorem pstep_sound (X : Stand p l e R s m args below meth c T locs cells slots) (hx : p.tables.exec = Jvm.exec) {ρ : Nat → Nat} {i : Instr} {n pc pc' : Nat} {ls ls' : Lv} {st st' : List Value}
    (h : pstep i pc ls st = some (pc', ls', st')) (hd : decode c.code pc = .ok (i, n)) (hn : isSw i = true ∨ n = ilen i) {L : Array Slot} (hL : LR ρ ls L) :
    ∃ L', LR ρ ls' L' ∧ L'.size = L.size ∧ ∀ target, Steps p.tables e below (T.setTop (mkF m pc' L' (st'.map (va ρ)))) target → Steps p.tables e below (T.setTop (mkF m pc L (st.map (va ρ)))) target := by
  by_cases hsw : isSw i = true
  · cases i <;> first | exact absurd hsw Bool.false_ne_true | skip
    simp only [pstep] at h
    split at h
    · rename_i e1; cases h; exact ⟨L, hL, rfl, qstep_sound X hx e1 hd hn⟩
    · cases h
  obtain rfl := hn.resolve_left hsw
  unfold pstep at h
  split at h
  -- loads
  · split at h
    · rename_i e1; cases h; exact ⟨L, hL, rfl, fun t q => XS.iloadN X.here hx rfl hd (hL.2.1 _ _ e1) q⟩
    · cases h
  · split at h
    · rename_i e1; cases h; exact ⟨L, hL, rfl, fun t q => XS.iload X.here hx rfl hd (hL.2.1 _ _ e1) q⟩
    · cases h
  · split at h
    · rename_i e1; cases h; exact ⟨L, hL, rfl, fun t q => XT.lloadN X.here hx rfl hd (hL.2.1 _ _ e1) q⟩
    · cases h
  · split at h
    · rename_i e1; cases h; exact ⟨L, hL, rfl, fun t q => XT.lload X.here hx rfl hd (hL.2.1 _ _ e1) q⟩
    · cases h
  · split at h
    · rename_i e1; cases h; exact ⟨L, hL, rfl, fun t q => XS.aloadN X.here hx rfl hd (hL.2.1 _ _ e1) rfl q⟩
    · cases h
  · split at h
    · rename_i e1; cases h; exact ⟨L, hL, rfl, fun t q => XS.aload X.here hx rfl hd (hL.2.1 _ _ e1) rfl q⟩
    · cases h
  -- stores
  · split at h
    · split at h
      · rename_i e1; cases h
        obtain ⟨L', a1, a2, a3⟩ := store_ok hL (fun x => by simp) e1
        exact ⟨L', a2, a3, fun t q => XS.istoreN X.here hx rfl hd rfl a1 q⟩
      · cases h
    · cases h
  · split at h
    · split at h
      · rename_i e1; cases h
        obtain ⟨L', a1, a2, a3⟩ := store_ok hL (fun x => by simp) e1
        exact ⟨L', a2, a3, fun t q => XS.istore X.here hx rfl hd rfl a1 q⟩
      · cases h
    · cases h
  · split at h
    · split at h
      · rename_i e1; cases h
        obtain ⟨L', a1, a2, a3⟩ := store_ok hL (fun x => by simp) e1
        exact ⟨L', a2, a3, fun t q => XT.lstoreN X.here hx rfl hd rfl a1 q⟩
      · cases h
    · cases h
  · split at h
    · split at h
      · rename_i e1; cases h
        obtain ⟨L', a1, a2, a3⟩ := store_ok hL (fun x => by simp) e1
        exact ⟨L', a2, a3, fun t q => XT.lstore X.here hx rfl hd rfl a1 q⟩
      · cases h
    · cases h
  · split at h
    · split at h
      · rename_i e1; cases h
        obtain ⟨L', a1, a2, a3⟩ := store_ok hL (fun x => by simp) e1
        exact ⟨L', a2, a3, fun t q => XS.astoreN X.here hx rfl hd rfl rfl a1 q⟩
      · cases h
    · cases h
  · split at h
    · split at h
      · rename_i e1; cases h
        obtain ⟨L', a1, a2, a3⟩ := store_ok hL (fun x => by simp) e1
        exact ⟨L', a2, a3, fun t q => XS.astore X.here hx rfl hd rfl rfl a1 q⟩
      · cases h
    · cases h
  · split at h
    · rename_i e0
      split at h
      · rename_i e1; cases h
        obtain ⟨L', a1, a2, a3⟩ := store_ok hL (fun x => by simp) e1
        exact ⟨L', a2, a3, fun t q => XS.iinc X.here hx rfl hd (hL.2.1 _ _ e0) a1 q⟩
      · cases h
    · cases h
  · rename_i hq
    split at h
    · rename_i e1; cases h; exact ⟨L, hL, rfl, qstep_sound X hx e1 hd hn⟩
    · cases h
end Pure
/-! the class's own machine -/
def nd : List Value → Bool
  | [] => true
  | .double _ :: _ => false
  | _ :: r => nd r
theorem nd_spec {as : List Value} (h : nd as = true) : ∀ v ∈ as, ∀ x, v ≠ .double x := by
  induction as with
  | nil => intro v hv; cases hv
  | cons w r ih =>
    intro v hv x e
    rcases List.mem_cons.mp hv with q | q
    · subst q; subst e; cases h
    · refine ih ?_ v q x e
      cases w <;> first | exact h | cases h
def layA : List Value → Lv
  | [] => []
  | .long x :: r => some (.long x) :: none :: layA r
  | v :: r => some v :: layA r
def lay (as : List Value) (n : Nat) : Lv := layA as ++ List.replicate (n - (layA as).length) none
def cats (st : List Value) : Nat := (st.map fun v => v.category).sum
def tyOf : Nat → FieldType
  | 0 => .int
  | 1 => .boolean
  | _ => .long
def atOf : Nat → ArrayType
  | 0 => .int
  | 1 => .boolean
  | _ => .long
def retOf : Nat → Option FieldType
  | 0 => none
  | 1 => some .int
  | 2 => some .boolean
  | _ => some .long
def zs (al : List (Nat × Nat)) (c : Nat) : Nat := ((al.take c).map (·.2)).sum
abbrev Rs := Option (Option Value × St)
def cret (me : Me) (st : List Value) (i : Instr) : Option (Option Value) :=
  match i with
  | .ireturn => match st with
    | [.int x] => if me.rt = 1 then some (some (.int x)) else if me.rt = 2 then some (some (.int (x &&& 1))) else none
    | _ => none
  | .lreturn => match st with
    | [.long x] => if me.rt = 3 then some (some (.long x)) else none
    | _ => none
  | .return_ => match st with
    | [] => if me.rt = 0 then some none else none
    | _ => none
  | _ => none
def isRet : Instr → Bool
  | .ireturn => true
  | .lreturn => true
  | .return_ => true
  | _ => false
def gfld (P : Cl) (x : Nat) (c : Nat) (s : St) : Option Value :=
  match asc P.fx x with
  | none => none
  | some k => match asc P.fs k with
    | none => none
    | some fe => match fe.2.2.1 with
      | 0 => some (.int (gI s 0 k))
      | 1 => some (.int (gI s 0 k))
      | 2 => some (.long (gL s 0 k))
      | j + 3 => if j < c then some (.ref (j + 1)) else none
def pfld (P : Cl) (x : Nat) (ini : Bool) (v : Value) (s : St) : Option St :=
  match asc P.fx x with
  | none => none
  | some k => match asc P.fs k with
    | none => none
    | some fe => if fe.2.2.2 = true ∧ ini = false then none else
      match fe.2.2.1, v with
      | 0, .int z => some (sI s 0 k z)
      | 1, .int z => some (sI s 0 k (z &&& 1))
      | 2, .long z => some (sL s 0 k z)
      | _, _ => none
def newF (P : Cl) (t : ArrayType) (cd : Cd) (pc c : Nat) (st : List Value) : Bool :=
  match st with
  | [.int n, .ref 0] => match fetch cd (pc + 2) with
    | some (.putfield x, 3) => match asc P.fx x with
      | some k => match asc P.fs k with
        | some fe => match P.al[c]? with
          | some (tt, N) => decide (fe.2.2.1 = c + 3 ∧ t = atOf tt ∧ 0 ≤ n.toInt ∧ n.toInt = N ∧ N < 1000000)
          | none => false
        | none => false
      | none => false
    | _ => false
  | _ => false
def lda (P : Cl) (tt c : Nat) (st : List Value) (s : St) : Option (List Value) :=
  match st with
  | .int i :: .ref (a + 1) :: r => match P.al[a]? with
    | some (t2, N) => if t2 = tt ∧ a < c then (if inb N i then some ((if tt = 2 then .long (gL s (a + 1) (ix i)) else .int (gI s (a + 1) (ix i))) :: r) else none) else none
    | none => none
  | _ => none
def sta (P : Cl) (tt c : Nat) (st : List Value) (s : St) : Option (List Value × St) :=
  match st with
  | v :: .int i :: .ref (a + 1) :: r => match P.al[a]? with
    | some (t2, N) => if t2 = tt ∧ a < c then (if inb N i then (match tt, v with
        | 0, .int z => some (r, sI s (a + 1) (ix i) z)
        | 1, .int z => some (r, sI s (a + 1) (ix i) (z &&& 1))
        | 2, .long z => some (r, sL s (a + 1) (ix i) z)
        | _, _ => none) else none) else none
    | none => none
  | _ => none
def cstep {α : Type} (P : Cl) (mi : Nat) (me : Me) (rt : Option Value → St → Option α) (cl : Nat → Nat → List Value → St → Rs) (k : Nat → Nat → Lv → List Value → St → Option α) (i : Instr) (c pc : Nat) (ls : Lv) (st : List Value) (s : St) : Option α :=
  match i with
  | .getfield x => match st with
    | .ref 0 :: r => (match gfld P x c s with | some v => k c (pc + 3) ls (v :: r) s | none => none)
    | _ => none
  | .putfield x => match st with
    | v :: .ref 0 :: r => (match pfld P x (mi == 0) v s with | some s' => k c (pc + 3) ls r s' | none => none)
    | _ => none
  | .iaload => match lda P 0 c st s with | some st' => k c (pc + 1) ls st' s | none => none
  | .baload => match lda P 1 c st s with | some st' => k c (pc + 1) ls st' s | none => none
  | .laload => match lda P 2 c st s with | some st' => k c (pc + 1) ls st' s | none => none
  | .iastore => match sta P 0 c st s with | some (st', s') => k c (pc + 1) ls st' s' | none => none
  | .bastore => match sta P 1 c st s with | some (st', s') => k c (pc + 1) ls st' s' | none => none
  | .lastore => match sta P 2 c st s with | some (st', s') => k c (pc + 1) ls st' s' | none => none
  | .newarray t => if mi = 0 ∧ newF P t me.cd pc c st = true then k (c + 1) (pc + 5) ls [] s else none
  | .ldc x => match asc P.kx x with | some (.int z) => k c (pc + 2) ls (.int z :: st) s | _ => none
  | .ldc2_w x => match asc P.kx x with | some (.long z) => k c (pc + 3) ls (.long z :: st) s | _ => none
  | .invokespecial x => match st with
    | .ref 0 :: r => if x = P.oi ∧ 1 ≤ me.rf ∧ cats r + 12 ≤ me.rl then k c (pc + 3) ls r s else none
    | _ => none
  | .invokevirtual x => match asc P.mx x with
    | none => none
    | some m' => match asc P.ms m' with
      | none => none
      | some me' => match st.drop me'.na with
        | .ref 0 :: r => if m' ≠ 0 ∧ me'.rf + 1 ≤ me.rf ∧ cats r + (me'.ml + 11) + me'.rl ≤ me.rl ∧ nd (st.take me'.na) = true then
            (match cl m' c (.ref 0 :: (st.take me'.na).reverse) s with
             | some (none, s') => k c (pc + 3) ls r s'
             | some (some v, s') => k c (pc + 3) ls (v :: r) s'
             | none => none) else none
        | _ => none
  | i => if isRet i = true then (if mi = 0 ∧ c ≠ P.al.length then none else match cret me st i with | some v => rt v s | none => none)
    else match pstep i pc ls st with | some (pc', ls', st') => k c pc' ls' st' s | none => none
def cexec (P : Cl) : Nat → Nat → Me → Nat → Nat → Lv → List Value → St → Rs
  | 0, _, _, _, _, _, _, _ => none
  | f + 1, mi, me, c, pc, ls, st, s => match fetch me.cd pc with
    | none => none
    | some (i, _) => cstep P mi me (fun v s => some (v, s)) (fun m' c as s => match asc P.ms m' with | some me' => (if (layA as).length ≤ me'.ml then cexec P f m' me' c 0 (lay as me'.ml) [] s else none) | none => none) (cexec P f mi me) i c pc ls st s
def ccall (P : Cl) (f m' c : Nat) (as : List Value) (s : St) : Rs := match asc P.ms m' with | some me' => (if (layA as).length ≤ me'.ml then cexec P f m' me' c 0 (lay as me'.ml) [] s else none) | none => none
end Jvm.LM

namespace Jvm.LM
open Sem ClassFile Op Lib Jvm.Stand Jvm.Free Jvm.LawKit Jvm.RoadKit
/-! how the machine's state stands in the heap -/
theorem adr_ne (a j : Nat) : a + (j + 1) ≠ a := by omega
theorem adr_ne' (a j : Nat) : a ≠ a + (j + 1) := by omega
theorem adr_ne2 (a : Nat) {j k : Nat} (h : j ≠ k) : a + (j + 1) ≠ a + (k + 1) := by omega
def Fval (adr c : Nat) (s : St) (k : Nat) (fe : Fe) : Value :=
  match fe.2.2.1 with
  | 0 => .int (gI s 0 k)
  | 1 => .int (gI s 0 k)
  | 2 => .long (gL s 0 k)
  | j + 3 => if j < c then .ref (adr + (j + 1)) else .null
def elv (tt : Nat) (s : St) (j i : Nat) : Value := if tt = 2 then .long (gL s j i) else .int (gI s j i)
def ARep (Z : State) (h : Heap) (a tt N : Nat) (s : St) (j : Nat) : Prop :=
  ∃ cl : Cell, Arr Z h a cl (tyOf tt) ∧ cl.slots.size = N ∧ ∀ i, i < N → cl.slots[i]? = some (elv tt s j i)
def HRep (P : Cl) (Z : State) (h : Heap) (adr c : Nat) (s : St) : Prop :=
  Exa Z h adr P.nm ∧ (∀ k fe, asc P.fs k = some fe → Fld Z h adr P.nm fe.1 fe.2.1 (Fval adr c s k fe)) ∧
  (∀ (j tt N : Nat), P.al[j]? = some (tt, N) → j < c → ARep Z h (adr + (j + 1)) tt N s (j + 1)) ∧
  (∀ j i, c < j → gI s j i = 0 ∧ gL s j i = 0) ∧ c ≤ P.al.length
def fkTy (P : Cl) : Nat → FieldType
  | 0 => .int
  | 1 => .boolean
  | 2 => .long
  | j + 3 => .array (tyOf ((P.al[j]?.map (·.1)).getD 0))
def yOf (P : Cl) (me : Me) : MethodName := ⟨P.nm, me.nm, me.ds⟩
def LinkC (P : Cl) (Z : State) (a0 : Array Value) : Prop :=
  ((∃ nF, (Cond.instantiable P.nm nF).before a0 Z = true) ∧ (Cond.initialized P.nm).before a0 Z = true) ∧
  (∀ x k, asc P.fx x = some k → ∀ fe, asc P.fs k = some fe → (Cond.fieldLink P.nm x P.nm fe.1 fe.2.1).before a0 Z = true) ∧
  (∀ k fe, asc P.fs k = some fe → (if fe.2.2.2 = true then Cond.laysFinal P.nm P.nm fe.1 fe.2.1 else Cond.lays P.nm P.nm fe.1 fe.2.1).before a0 Z = true) ∧
  (∀ k fe, asc P.fs k = some fe → parseFieldDescriptor fe.2.1 = some (fkTy P fe.2.2.1)) ∧
  (∀ k k' fe fe', asc P.fs k = some fe → asc P.fs k' = some fe' → k ≠ k' → fe.1 ≠ fe'.1 ∧ (3 ≤ fe.2.2.1 → fe.2.2.1 ≠ fe'.2.2.1)) ∧
  (∀ (j tt N : Nat), P.al[j]? = some (tt, N) → tt ≤ 2 ∧ (Cond.arrayClass (tyOf tt)).before a0 Z = true) ∧
  (∀ x v, asc P.kx x = some v → match v with
    | .int z => (Cond.constant P.nm x z).before a0 Z = true
    | .long z => (Cond.constantLong P.nm x z).before a0 Z = true
    | _ => True) ∧
  ((Cond.methodLink P.nm P.oi Lib.objectInit).before a0 Z = true ∧ (Cond.instanceMethod Lib.objectInit).before a0 Z = true ∧ (Cond.code Lib.objectInit ⟨#[0xb1]⟩ 1 none).before a0 Z = true) ∧
  (∀ mi me, asc P.ms mi = some me → ∃ (bytes : ByteArray) (ps : List FieldType), (Cond.code (yOf P me) bytes me.ml (retOf me.rt)).before a0 Z = true ∧
    (∀ pc i n, fetch me.cd pc = some (i, n) → decode bytes pc = .ok (i, n) ∧ (isSw i = true ∨ n = ilen i)) ∧ parseMethodDescriptor me.ds = some ⟨ps, retOf me.rt⟩ ∧ ps.length = me.na) ∧
  (∀ x mi, asc P.mx x = some mi → ∀ me, asc P.ms mi = some me → (Cond.methodLink P.nm x (yOf P me)).before a0 Z = true ∧ (Cond.instanceMethod (yOf P me)).before a0 Z = true ∧
    ((Cond.privateMethod (yOf P me)).before a0 Z = true ∨ ((Cond.declares (yOf P me)).before a0 Z = true ∧ (Cond.selects P.nm (yOf P me) (yOf P me)).before a0 Z = true))) ∧
  plainName P.nm = true ∧ (P.nm ≠ "java/lang/invoke/MethodHandle" ∧ P.nm ≠ "java/lang/invoke/VarHandle") ∧ (∀ me, asc P.ms 0 = some me → me.nm = "<init>")
theorem gI_sI (s : St) (c j : Nat) (v : Int32) (a b : Nat) : gI (sI s c j v) a b = if a = c ∧ b = j then v else gI s a b := rfl
theorem gL_sI (s : St) (c j : Nat) (v : Int32) (a b : Nat) : gL (sI s c j v) a b = gL s a b := rfl
theorem gI_sL (s : St) (c j : Nat) (v : Int64) (a b : Nat) : gI (sL s c j v) a b = gI s a b := rfl
theorem gL_sL (s : St) (c j : Nat) (v : Int64) (a b : Nat) : gL (sL s c j v) a b = if a = c ∧ b = j then v else gL s a b := rfl
theorem laid_of {P : Cl} {Z : State} {a0 : Array Value} (LK : LinkC P Z a0) {k : Nat} {fe : Fe} (hk : asc P.fs k = some fe) : Laid Z a0 P.nm P.nm fe.1 fe.2.1 := by
  have q := LK.2.2.1 k fe hk
  split at q
  · exact Or.inr q
  · exact Or.inl q
/-- a heap that is alike where the object lies -/
theorem HRep.congr {P : Cl} {Z : State} {h h' : Heap} {adr c : Nat} {s : St} (H : HRep P Z h adr c s) (e : ∀ x, adr ≤ x → x < adr + 1 + P.al.length → h'[x]? = h[x]?) : HRep P Z h' adr c s := by
  obtain ⟨h1, h2, h3, h4, h5⟩ := H
  have ea : h'[adr]? = h[adr]? := e adr (Nat.le_refl _) (by omega)
  refine ⟨?_, fun k fe hk => ?_, fun j tt N hj hc => ?_, h4, h5⟩
  · obtain ⟨cell, k, q1, r⟩ := h1; exact ⟨cell, k, by rw [ea]; exact q1, r⟩
  · obtain ⟨cell, cf, k, i, f, q1, r⟩ := h2 k fe hk; exact ⟨cell, cf, k, i, f, by rw [ea]; exact q1, r⟩
  · obtain ⟨cl, ⟨q1, q2⟩, q3⟩ := h3 j tt N hj hc
    exact ⟨cl, ⟨by rw [e _ (by omega) (by omega)]; exact q1, q2⟩, q3⟩
theorem HRep.putFld {P : Cl} {Z : State} {a0 : Array Value} (LK : LinkC P Z a0) {h h' : Heap} {adr c k : Nat} {fe : Fe} {s s' : St} {v : Value} (H : HRep P Z h adr c s) (hk : asc P.fs k = some fe)
    (W : Wr h h' adr (RoadKit.slotOf Z P.nm fe.1 fe.2.1) v) (hv : v = Fval adr c s' k fe) (hI : ∀ a b, (a ≠ 0 ∨ b ≠ k) → gI s' a b = gI s a b ∧ gL s' a b = gL s a b) : HRep P Z h' adr c s' := by
  obtain ⟨h1, h2, h3, h4, h5⟩ := H
  refine ⟨h1.wr W, fun k2 fe2 hk2 => ?_, fun j tt N hj hc => ?_, fun j i hj => ?_, h5⟩
  · by_cases e : k2 = k
    · subst e; cases hk.symm.trans hk2
      rw [← hv]; exact (h2 _ _ hk).same W
    · have hne := (LK.2.2.2.2.1 _ _ _ _ hk2 hk e).1
      have q := (h2 _ _ hk2).other W (Or.inr (slot_ne (laid_of LK hk2) (laid_of LK hk) hne (LK.2.2.2.1 _ _ hk2) (LK.2.2.2.1 _ _ hk)))
      have e2 : Fval adr c s' k2 fe2 = Fval adr c s k2 fe2 := by
        have := hI 0 k2 (Or.inr e)
        simp only [Fval]; split <;> simp [this.1, this.2]
      rw [e2]; exact q
  · obtain ⟨cl, q1, q2, q3⟩ := h3 j tt N hj hc
    refine ⟨cl, q1.other W (adr_ne _ _), q2, fun i hi => ?_⟩
    have := hI (j + 1) i (Or.inl (by omega))
    rw [q3 i hi]; simp only [elv, this.1, this.2]
  · have := hI j i (Or.inl (by omega))
    rw [this.1, this.2]; exact h4 j i hj
theorem HRep.putArr {P : Cl} {Z : State} {h h' : Heap} {adr c a tt N n : Nat} {s s' : St} {v : Value} (H : HRep P Z h adr c s) (ha : P.al[a]? = some (tt, N)) (hac : a < c) (hn : n < N)
    (W : Wr h h' (adr + (a + 1)) n v) (hv : v = elv tt s' (a + 1) n) (hI : ∀ x y, (x ≠ a + 1 ∨ y ≠ n) → gI s' x y = gI s x y ∧ gL s' x y = gL s x y) : HRep P Z h' adr c s' := by
  obtain ⟨h1, h2, h3, h4, h5⟩ := H
  refine ⟨h1.wr W, fun k fe hk => ?_, fun j tt2 N2 hj hc => ?_, fun j i hj => ?_, h5⟩
  · have q := (h2 _ _ hk).other W (Or.inl (adr_ne' _ _))
    have e2 : Fval adr c s' k fe = Fval adr c s k fe := by
      have := hI 0 k (Or.inl (by omega))
      simp only [Fval]; split <;> simp [this.1, this.2]
    rw [e2]; exact q
  · obtain ⟨cl, q1, q2, q3⟩ := h3 j tt2 N2 hj hc
    by_cases e : j = a
    · subst e; cases ha.symm.trans hj
      refine ⟨cl.setSlot n v, q1.same W, by rw [sz_set]; exact q2, fun i hi => ?_⟩
      by_cases ei : i = n
      · subst ei; rw [← hv]; simp [Cell.setSlot, q2, hi]
      · have := hI (j + 1) i (Or.inr ei)
        have q4 := q3 i hi
        simp only [elv, this.1, this.2] at q4 ⊢
        simp only [Cell.setSlot]
        rw [Array.getElem?_setIfInBounds_ne (fun q => ei q.symm)]; exact q4
    · refine ⟨cl, q1.other W (adr_ne2 _ e), q2, fun i hi => ?_⟩
      have := hI (j + 1) i (Or.inl (by omega))
      rw [q3 i hi]; simp only [elv, this.1, this.2]
  · have := hI j i (Or.inl (by omega))
    rw [this.1, this.2]; exact h4 j i hj
theorem HRep.newArr {P : Cl} {Z : State} {a0 : Array Value} (LK : LinkC P Z a0) {h h1 h2 : Heap} {adr c k tt N : Nat} {fe : Fe} {s : St} {n : Int32} {cA : ClassId} (H : HRep P Z h adr c s) (hk : asc P.fs k = some fe) (hkd : fe.2.2.1 = c + 3)
    (ha : P.al[c]? = some (tt, N)) (hn0 : 0 ≤ n.toInt) (hn : n.toInt = N) (hsz : h.size = adr + 1 + c) (E : Ext h h1) (A : Arr Z h1 h.size (newA cA (tyOf tt) n) (tyOf tt)) (W : Wr h1 h2 adr (RoadKit.slotOf Z P.nm fe.1 fe.2.1) (.ref h.size)) : HRep P Z h2 adr (c + 1) s := by
  obtain ⟨g1, g2, g3, g4, g5⟩ := H
  have hc : c < P.al.length := (List.getElem?_eq_some_iff.mp ha).1
  have hNn : n.toNatClampNeg = N := by simp only [Int32.toNatClampNeg]; omega
  have htt := (LK.2.2.2.2.2.1 _ _ _ ha).1
  refine ⟨(g1.ext E).wr W, fun k2 fe2 hk2 => ?_, fun j tt2 N2 hj hjc => ?_, fun j i hj => g4 j i (by omega), hc⟩
  · by_cases e : k2 = k
    · subst e; cases hk.symm.trans hk2
      have q := ((g2 _ _ hk).ext E).same W
      have e2 : Fval adr (c + 1) s k2 fe = .ref h.size := by simp only [Fval, hkd]; rw [if_pos (Nat.lt_succ_self c), hsz]; exact congrArg Value.ref (show adr + (c + 1) = adr + 1 + c by omega)
      rw [e2]; exact q
    · have hne := LK.2.2.2.2.1 _ _ _ _ hk2 hk e
      have q := ((g2 _ _ hk2).ext E).other W (Or.inr (slot_ne (laid_of LK hk2) (laid_of LK hk) hne.1 (LK.2.2.2.1 _ _ hk2) (LK.2.2.2.1 _ _ hk)))
      have e2 : Fval adr (c + 1) s k2 fe2 = Fval adr c s k2 fe2 := by
        simp only [Fval]; split
        · rfl
        · rfl
        · rfl
        · rename_i j hj
          have : j ≠ c := fun q => (hne.2 (by rw [hj]; omega)) (by rw [hj, hkd, q])
          by_cases b : j < c
          · rw [if_pos b, if_pos (by omega)]
          · rw [if_neg b, if_neg (by omega)]
      rw [e2]; exact q
  · by_cases e : j = c
    · subst e; cases ha.symm.trans hj
      have hA : Arr Z h2 h.size (newA cA (tyOf tt) n) (tyOf tt) := A.other W (show h.size ≠ adr by omega)
      refine ⟨newA cA (tyOf tt) n, by rw [show adr + (j + 1) = h.size by omega]; exact hA, by rw [sz_new]; exact hNn, fun i hi => ?_⟩
      have z := g4 (j + 1) i (by omega)
      simp only [newA, hNn, elv, z.1, z.2]
      rw [Array.getElem?_replicate, if_pos hi]
      have : tt = 0 ∨ tt = 1 ∨ tt = 2 := by omega
      rcases this with rfl | rfl | rfl <;> rfl
    · obtain ⟨cl, q1, q2, q3⟩ := g3 j tt2 N2 hj (by omega)
      exact ⟨cl, (q1.ext E).other W (adr_ne _ _), q2, q3⟩
/-- outside the object nothing moves -/
def Kp (h0 h : Heap) (adr n : Nat) : Prop := ∀ x, (x < adr ∨ adr + 1 + n ≤ x) → h[x]? = h0[x]?
theorem Kp.wr {h0 h h' : Heap} {adr n a sl : Nat} {v : Value} (K : Kp h0 h adr n) (W : Wr h h' a sl v) (h1 : adr ≤ a) (h2 : a < adr + 1 + n) : Kp h0 h' adr n := fun x hx => by
  obtain ⟨cell, q1, q2, q3, rfl⟩ := W
  rw [Array.getElem?_setIfInBounds_ne (by omega)]; exact K x hx
theorem Kp.ext {h0 h h' : Heap} {adr n : Nat} (K : Kp h0 h adr n) (E : Ext h h') (h1 : h'.size ≤ adr + 1 + n) (h2 : adr ≤ h.size) : Kp h0 h' adr n := fun x hx => by
  rw [← K x hx]
  by_cases b : x < h.size
  · obtain ⟨c, hc⟩ : ∃ c, h[x]? = some c := ⟨h[x], Array.getElem?_eq_getElem b⟩
    rw [hc]; exact E.2 _ _ hc
  · rw [Array.getElem?_eq_none (by omega), Array.getElem?_eq_none (by omega)]
theorem Kp.trans {h0 h h' : Heap} {adr n : Nat} (K : Kp h0 h adr n) (K' : Kp h h' adr n) : Kp h0 h' adr n := fun x hx => (K' x hx).trans (K x hx)
def cRoom (P : Cl) (mi : Nat) (me : Me) : Room := { frames := me.rf, cells := if mi = 0 then P.al.length else 0, slots := if mi = 0 then zs P.al P.al.length else 0, locals := me.rl }
def QC (P : Cl) (Z : State) (n0 adr mi c : Nat) (w : Option Value) (s' : St) (h0 : Heap) (v : Option Value) (h : Heap) (L : List Loc) : Prop :=
  (v = w ∧ ∀ ρ, v.toList.map (va ρ) = v.toList) ∧ Fr n0 L ∧ HRep P Z h adr (if mi = 0 then P.al.length else c) s' ∧ Kp h0 h adr P.al.length ∧ h.size = (if mi = 0 then adr + 1 + P.al.length else h0.size)
/-- the run from S ends, and so -/
def Don (p : Program) (e : Env) (below : List Frame) (s₀ : State) (rm : Room) (Q : Option Value → Heap → List Loc → Prop) (S : State) : Prop :=
  ∃ s₂ o, Steps p.tables e below S s₂ ∧ s₂.status = .running ∧ Ended s₂ below o ∧ ∃ v L, o = .returned v ∧ Q v s₂.heap L ∧ FrameEnd s₀ o s₂ L rm.cells rm.slots
theorem Don.step {p : Program} {e : Env} {below : List Frame} {s₀ : State} {rm : Room} {Q : Option Value → Heap → List Loc → Prop} {S S' : State} (h : ∀ t, Steps p.tables e below S' t → Steps p.tables e below S t) (D : Don p e below s₀ rm Q S') : Don p e below s₀ rm Q S := by
  obtain ⟨s₂, o, h1, h2⟩ := D; exact ⟨s₂, o, h _ h1, h2⟩
def Inv (P : Cl) (Z : State) (n0 adr mi c : Nat) (s : St) (h0 h : Heap) (locs : List Loc) : Prop :=
  HRep P Z h adr c s ∧ Fr n0 locs ∧ Kp h0 h adr P.al.length ∧ h.size = (if mi = 0 then adr + 1 + c else h0.size)
def co (mi c : Nat) : Nat := if mi = 0 then c else 0
def zo (P : Cl) (mi c : Nat) : Nat := if mi = 0 then zs P.al c else 0
/-- what the walk of a body is to show, at a given fuel -/
def CW (P : Cl) (Z : State) (n0 adr f mi : Nat) (me : Me) : Prop :=
  ∀ (p : Program) (l : Launch) (e : Env) (s₀ : State) (m : MethodId) (args : Array Value) (below : List Frame) (meth : Method) (cd : Code) (T : State) (locs : List Loc) (h0 : Heap) (c pc : Nat) (ls : Lv) (st : List Value) (s : St) (v : Option Value) (s' : St) (L : Array Slot),
    p.tables.exec = Jvm.exec → Z.Warmed39 s₀.vm → s₀.vm.findClass P.nm = some m.cls → meth.name = me.nm → meth.sig.returnType = retOf me.rt → cd.maxLocals = me.ml → meth.locks = false → (mi = 0 → s₀.heap.size = adr + 1) →
    (∀ pc i n, fetch me.cd pc = some (i, n) → decode cd.code pc = .ok (i, n) ∧ (isSw i = true ∨ n = ilen i)) →
    cexec P f mi me c pc ls st s = some (v, s') →
    Stand p l e (cRoom P mi me) s₀ m args below meth cd T locs (co mi c) (zo P mi c) →
    Inv P Z n0 adr mi c s h0 T.heap locs → LR (adr + ·) ls L → ls.length = me.ml →
    Don p e below s₀ (cRoom P mi me) (QC P Z n0 adr mi c v s' h0) (T.setTop (mkF m pc L (st.map (va (adr + ·)))))
theorem zs_mono (al : List (Nat × Nat)) {a b : Nat} (h : a ≤ b) : zs al a ≤ zs al b := by
  obtain ⟨d, rfl⟩ := Nat.le.dest h
  simp only [zs]
  rw [List.take_add, List.map_append, List.sum_append]; omega
theorem zs_succ (al : List (Nat × Nat)) {c tt N : Nat} (h : al[c]? = some (tt, N)) : zs al (c + 1) = zs al c + N := by
  simp only [zs, List.take_add_one, h]; simp
theorem zs_le (al : List (Nat × Nat)) (a : Nat) : zs al a ≤ zs al al.length := by
  by_cases h : a ≤ al.length
  · exact zs_mono al h
  · simp only [zs]; rw [List.take_of_length_le (by omega), List.take_of_length_le (Nat.le_refl _)]
    exact Nat.le_refl _
theorem narrow_I (z : Int32) : narrow .int (.int z) = .int z := rfl
theorem inb_not {n : Nat} {i : Int32} (h : inb n i) : ¬ (i < 0 ∨ n ≤ i.toNatClampNeg) := by
  intro q
  simp only [Int32.lt_iff_toInt_lt, Int32.toNatClampNeg, Int32.reduceToInt] at q
  have := h.1; have := h.2
  omega
theorem inb_ix {n : Nat} {i : Int32} (h : inb n i) : ix i < n := by
  have := h.1; have := h.2
  simp only [ix, Int32.toNatClampNeg]; omega
end Jvm.LM

namespace Jvm.LM
open Sem ClassFile Op Lib Jvm.Stand Jvm.Free Jvm.LawKit Jvm.RoadKit
/-! entering a method -/
def slA : List Value → List Slot
  | [] => []
  | v :: r => if v.category = 2 then .val v :: .second :: slA r else .val v :: slA r
theorem foldl_slA (as : List Value) (acc : Array Slot) : as.foldl (fun acc v => if v.category = 2 then (acc.push (.val v)).push .second else acc.push (.val v)) acc = acc ++ (slA as).toArray := by
  induction as generalizing acc with
  | nil => simp [slA]
  | cons v r ih =>
    rw [List.foldl_cons, ih]
    simp only [slA]
    split <;> simp
theorem al_eq (args : Array Value) (n : Nat) : argsToLocals args n = (let filled := args.foldl (init := #[]) fun acc v => if v.category = 2 then (acc.push (.val v)).push .second else acc.push (.val v); filled ++ Array.replicate (n - filled.size) .unset) := rfl
theorem atl_eq (as : List Value) (n : Nat) : argsToLocals as.toArray n = (slA as ++ List.replicate (n - (slA as).length) Slot.unset).toArray := by
  rw [al_eq]
  have : Array.foldl (fun acc v => if v.category = 2 then (acc.push (Slot.val v)).push .second else acc.push (.val v)) #[] as.toArray = (slA as).toArray := by
    rw [List.foldl_toArray, foldl_slA]; simp
  simp only [this]
  simp
theorem wfl_one {x : Slot} {l : List Slot} (h : WFf (fun k => l[k]?)) (hx : x ≠ .second) (hc : ∀ v, x = .val v → v.category ≠ 2) : WFf (fun k => (x :: l)[k]?) := by
  obtain ⟨h1, h2, h3⟩ := h
  refine ⟨fun k v hk hv => ?_, fun k hk => ?_, ?_⟩
  · cases k with
    | zero => simp at hk; exact absurd hv (hc v hk)
    | succ k => simp at hk ⊢; exact h1 k v hk hv
  · cases k with
    | zero => simp at hk; exact absurd (by simpa using hk) h3
    | succ k => simp at hk ⊢; exact h2 k (by simpa using hk)
  · simpa using hx
theorem wfl_two {v : Value} {l : List Slot} (h : WFf (fun k => l[k]?)) (hc : v.category = 2) : WFf (fun k => (Slot.val v :: .second :: l)[k]?) := by
  obtain ⟨h1, h2, h3⟩ := h
  refine ⟨fun k w hk hv => ?_, fun k hk => ?_, by simp⟩
  · match k with
    | 0 => simp
    | 1 => simp at hk
    | k + 2 => simp at hk ⊢; exact h1 k w hk hv
  · match k with
    | 0 => exact ⟨v, by simp, hc⟩
    | 1 => exact absurd (by simpa using hk) h3
    | k + 2 => simp at hk ⊢; exact h2 k (by simpa using hk)
theorem wfl_rep (n : Nat) : WFf (fun k => (List.replicate n Slot.unset)[k]?) := by
  refine ⟨fun k v hk _ => ?_, fun k hk => ?_, ?_⟩
  · simp [List.getElem?_replicate] at hk
  · simp [List.getElem?_replicate] at hk
  · simp [List.getElem?_replicate]
theorem wfl_slA (as : List Value) (r : List Slot) (h : WFf (fun k => r[k]?)) : WFf (fun k => (slA as ++ r)[k]?) := by
  induction as with
  | nil => simpa [slA] using h
  | cons v t ih =>
    simp only [slA]
    split
    · rename_i hc; exact wfl_two ih hc
    · rename_i hc; exact wfl_one ih (by simp) (fun w hw => by cases hw; exact hc)
theorem slA_len (ρ : Nat → Nat) (as : List Value) (hd : ∀ v ∈ as, ∀ x, v ≠ .double x) : (slA (as.map (va ρ))).length = (layA as).length := by
  induction as with
  | nil => rfl
  | cons v t ih =>
    have ih := ih fun w hw => hd w (List.mem_cons_of_mem _ hw)
    cases v <;> simp [slA, layA, va, Value.category, ih]
    exact absurd rfl (hd _ (List.mem_cons_self ..) _)
theorem layA_get {ρ : Nat → Nat} {as : List Value} (hd : ∀ v ∈ as, ∀ x, v ≠ .double x) {k : Nat} {w : Value} (h : (layA as)[k]? = some (some w)) : (slA (as.map (va ρ)))[k]? = some (.val (va ρ w)) := by
  induction as generalizing k with
  | nil => simp [layA] at h
  | cons v t ih =>
    have ih' := fun {k} => ih (k := k) fun w hw => hd w (List.mem_cons_of_mem _ hw)
    cases v
    case long x =>
      simp only [layA] at h
      match k with
      | 0 => simp at h; subst h; simp [slA, va, Value.category]
      | 1 => simp at h
      | k + 2 => simp at h; simpa [slA, va, Value.category] using ih' h
    case double x => exact absurd rfl (hd _ (List.mem_cons_self ..) _)
    all_goals
      simp only [layA] at h
      match k with
      | 0 => simp at h; subst h; simp [slA, va, Value.category]
      | k + 1 => simp at h; simpa [slA, va, Value.category] using ih' h
theorem lay_LR {ρ : Nat → Nat} {as : List Value} (hd : ∀ v ∈ as, ∀ x, v ≠ .double x) {n : Nat} (hn : (layA as).length ≤ n) : LR ρ (lay as n) (argsToLocals (as.map (va ρ)).toArray n) := by
  rw [atl_eq]
  have hl := slA_len ρ as hd
  refine ⟨by simp [lay, hl], fun k w hk => ?_, ?_⟩
  · simp only [lay] at hk
    rw [List.getElem?_append] at hk
    split at hk
    · have := layA_get (ρ := ρ) hd hk
      rw [List.getElem?_toArray, List.getElem?_append_left (by omega)]; exact this
    · simp [List.getElem?_replicate] at hk
  · have := wfl_slA (as.map (va ρ)) (List.replicate (n - (slA (as.map (va ρ))).length) Slot.unset) (wfl_rep _)
    have q : WFf (fun k => ((slA (as.map (va ρ)) ++ List.replicate (n - (slA (as.map (va ρ))).length) Slot.unset).toArray)[k]?) := by
      simpa using this
    exact q
theorem lay_len {as : List Value} {n : Nat} (hn : (layA as).length ≤ n) : (lay as n).length = n := by simp [lay]; omega
section Call
variable {p : Program} {l : Launch} {e : Env} {R : Room} {s : State} {m : MethodId} {args : Array Value} {below : List Frame} {meth : Method} {c : Code} {T : State} {locs : List Loc} {cells slots : Nat}
/-- a private method of a class that is no interface -/
theorem privCall (X : Stand p l e R s m args below meth c T locs cells slots) (hexec : p.tables.exec = Jvm.exec) {own : String} {index : Nat} {y : MethodName} {bytes : ByteArray} {maxL nF : Nat} {ret : Option FieldType}
    (hown : s.vm.findClass own = some m.cls) (hlink : (Cond.methodLink own index y).before args s = true) (hinst : (Cond.instanceMethod y).before args s = true) (hi : (Cond.instantiable y.cls nF).before args s = true)
    (hpriv : s.PrivateAt y) (hcode : (Cond.code y bytes maxL ret).before args s = true) (hy : y.cls ≠ "java/lang/invoke/MethodHandle" ∧ y.cls ≠ "java/lang/invoke/VarHandle")
    {W : Nat} {Pre : Free.Pt → Array Value → Prop} {Post : Free.Pt → Array Value → Option Value → Free.Pt → Prop} (hK : Free.Back l R p e below s args y 3 W Pre Post)
    {g : JFrame} (hg : g.method = m) (hsize : g.locals.size = c.maxLocals) {a : Addr} {cell : Cell} (hcell : T.heap[a]? = some cell) (hobj : ∀ q, cell.vm ≠ .statics q)
    {argsL rest : List Value} (hlen : ∀ sig, parseMethodDescriptor y.desc = some sig → argsL.length = sig.parameters.length)
    (hstack : g.stack = argsL.reverse ++ .ref a :: rest) (hW : 2 * g.monitorRoom + (rest.map fun v => v.category).sum ≤ W) (hdg : decode c.code g.pc = .ok (.invokevirtual index, 3))
    (hpre : ∀ vm₁, s.WarmedH vm₁ → Pre ⟨T.setVm vm₁, locs, cells, slots⟩ (.ref a :: argsL).toArray) :
    ∃ (v : Option Value) (vm₁ : Vm) (B : Free.Pt), s.WarmedH vm₁ ∧ Stand p l e R s m args below meth c B.U B.locs B.cells B.slots ∧ Post ⟨T.setVm vm₁, locs, cells, slots⟩ (.ref a :: argsL).toArray v B ∧
      Steps p.tables e below (T.setTop g) (B.U.setTop { g with pc := g.pc + 3, stack := v.toList ++ rest }) := by
  obtain ⟨mk, mM, hnamed, hmM, hst, hab⟩ := Cond.instanceMethod_spec hinst
  obtain ⟨mM', cM, hmM', -, -, -, -, -, -, hsig⟩ := Cond.code_spec hnamed hcode
  cases hmM.symm.trans hmM'
  obtain ⟨cc, kk, i1, i2, -, i4, -⟩ := Cond.instantiable_spec hi
  cases (findClass_of_methodNamed hnamed).symm.trans i1
  have hni : kk.isInterface = false := by
    cases q : kk.isInterface
    · rfl
    · rw [q] at i4; simp at i4
  have hsel : selectMethod e.platform s.vm cell.cls mk = .method mk := selectMethod_private hmM (hpriv mk mM hnamed hmM)
  obtain ⟨vm₁, X₁, hstep⟩ := X.invokevirtual hexec hown hlink hnamed hmM hst i2 hni hy hcell hobj hsel hmM hab i2 hni (g := g) hg (hlen _ hsig) hstack hdg
  obtain ⟨v, B, X', hpost, hs⟩ := hK m meth c ⟨T.setVm vm₁, locs, cells, slots⟩ { g with stack := rest } (.invokevirtual index) mk (.ref a :: argsL).toArray X₁ hg hsize hdg hW (X₁.named hnamed) (hpre vm₁ X₁.warmed)
  exact ⟨v, vm₁, B, X₁.warmed, X', hpost, hstep _ fun acts => by rw [doInvoke_state]; exact hs⟩
end Call
theorem cats_va (ρ : Nat → Nat) (st : List Value) : ((st.map (va ρ)).map fun v => v.category).sum = cats st := by
  simp only [cats, List.map_map]; congr 1; exact List.map_congr_left fun v _ => cat_va ρ v
/-- what a method of the class keeps, as a contract, from its walk -/
theorem met_of_CW {P : Cl} {Z : State} {a0 : Array Value} (LK : LinkC P Z a0) {n0 adr f mi : Nat} {me : Me} (hme : asc P.ms mi = some me) (hW : CW P Z n0 adr f mi me) (l : Launch) {bytes : ByteArray}
    (hdec : ∀ pc i n, fetch me.cd pc = some (i, n) → decode bytes pc = .ok (i, n) ∧ (isSw i = true ∨ n = ilen i))
    {as : List Value} (hd : ∀ v ∈ as, ∀ x, v ≠ .double x) (hlen : (layA as).length ≤ me.ml) {c : Nat} {s s' : St} {v : Option Value} {h : Heap} (hr : cexec P f mi me c 0 (lay as me.ml) [] s = some (v, s')) (hc : mi = 0 → c = 0)
    (H : HRep P Z h adr c s) (hsz : mi = 0 → h.size = adr + 1) :
    MetFree l (yOf P me) (head1 [Cond.code (yOf P me) bytes me.ml (retOf me.rt)] (cRoom P mi me)) (fun a U => a = (as.map (va (adr + ·))).toArray ∧ Z.Warmed39 U.vm ∧ U.heap = h) (fun _ _ _ _ _ => True)
      (fun _ U o U' => ∃ w L, o = .returned w ∧ QC P Z n0 adr mi c v s' h w U'.heap L ∧ FrameEnd U o U' L (cRoom P mi me).cells (cRoom P mi me).slots) := by
  refine MetFree.of_bodySF (plainFor_of_name LK.2.2.2.2.2.2.2.2.2.2.1) hisR ?_
  intro p e s₀ m args below meth cd s₁ Bd hml hP hK
  obtain ⟨rfl, hZ, hh⟩ := hP
  have e0 : s₁.heap = h := by rw [← hh, Bd.state]; rfl
  have X0 : Stand p l e (cRoom P mi me) s₀ m _ below meth cd s₁ [] 0 0 := Stand.of_body Bd
  have hown : s₀.vm.findClass P.nm = some m.cls := findClass_of_methodNamed Bd.named
  have hnm : meth.name = me.nm := (name_of_methodNamed Bd.named Bd.method).1
  have hk0 : co mi c = 0 := by simp only [co]; split; · rename_i q; exact hc q
                               · rfl
  have hz0 : zo P mi c = 0 := by
    simp only [zo]; split
    · rename_i q; rw [hc q]; simp [zs]
    · rfl
  have D := hW p l e s₀ m _ below meth cd s₁ [] h c 0 (lay as me.ml) [] s v s' _ Bd.exec hZ hown hnm Bd.returns hml Bd.notSynchronized (fun q => by rw [hh]; exact hsz q)
    (fun pc i n q => by rw [Bd.bytes]; exact hdec pc i n q) hr (by rw [hk0, hz0]; exact X0)
    ⟨by rw [e0]; exact H, Fr.nil n0, by rw [e0]; exact fun x _ => rfl, by
      rw [e0]; split
      · rename_i q; rw [hsz q, hc q]
      · rfl⟩ (lay_LR hd hlen) (lay_len hlen)
  obtain ⟨s₂, o, a1, a2, a3, w, L, a4, a5, a6⟩ := D
  exact ⟨s₂, o, a1, a2, a3, w, L, a4, a5, a6⟩
end Jvm.LM

namespace Jvm.LM
open Sem ClassFile Op Lib Jvm.Stand Jvm.Free Jvm.LawKit Jvm.RoadKit
section Steps
variable {p : Program} {l : Launch} {e : Env} {R : Room} {s₀ : State} {m : MethodId} {args : Array Value} {below : List Frame} {meth : Method} {cd : Code} {T : State} {locs : List Loc} {cells slots : Nat}
variable {P : Cl} {Z : State} {a0 : Array Value} {n0 adr c mi : Nat} {s s' : St} {h0 : Heap}
theorem gfld_val {x : Nat} {w : Value} (hg : gfld P x c s = some w) : ∃ k fe, asc P.fx x = some k ∧ asc P.fs k = some fe ∧ Fval adr c s k fe = va (adr + ·) w := by
  unfold gfld at hg
  split at hg
  · cases hg
  · rename_i k e1
    split at hg
    · cases hg
    · rename_i fe e2
      refine ⟨k, fe, e1, e2, ?_⟩
      simp only [Fval]
      split at hg
      · rename_i e3; cases hg; first | rfl | (rw [e3]; rfl)
      · rename_i e3; cases hg; first | rfl | (rw [e3]; rfl)
      · rename_i e3; cases hg; first | rfl | (rw [e3]; rfl)
      · rename_i j e3
        split at hg
        · rename_i e4; cases hg; first | (simp only [if_pos e4]; rfl) | (rw [e3]; simp only [if_pos e4]; rfl)
        · cases hg
theorem st_get (LK : LinkC P Z a0) (X : Stand p l e R s₀ m args below meth cd T locs cells slots) (hx : p.tables.exec = Jvm.exec) (hZ : Z.Warmed39 s₀.vm) (hown : s₀.vm.findClass P.nm = some m.cls) (H : HRep P Z T.heap adr c s) {x pc : Nat} {w : Value} (hg : gfld P x c s = some w)
    (hd : decode cd.code pc = .ok (.getfield x, 3)) {L : Array Slot} {r : List Value} :
    ∃ T', Stand p l e R s₀ m args below meth cd T' locs cells slots ∧ T'.heap = T.heap ∧ ∀ t, Steps p.tables e below (T'.setTop (mkF m (pc + 3) L (va (adr + ·) w :: r))) t → Steps p.tables e below (T.setTop (mkF m pc L (.ref adr :: r))) t := by
  obtain ⟨k, fe, e1, e2, e3⟩ := gfld_val (adr := adr) hg
  have F := H.2.1 k fe e2
  rw [e3] at F
  exact getF X hx hZ hown (host := "") (Or.inl (LK.2.1 _ _ e1 _ e2)) Via.refl rfl F (g := mkF m pc L (.ref adr :: r)) rfl rfl hd
theorem st_put (LK : LinkC P Z a0) (X : Stand p l e R s₀ m args below meth cd T locs cells slots) (hx : p.tables.exec = Jvm.exec) (hZ : Z.Warmed39 s₀.vm) (hown : s₀.vm.findClass P.nm = some m.cls) (hna : n0 ≤ adr) (I : Inv P Z n0 adr mi c s h0 T.heap locs) {x pc : Nat} {w : Value} {ini : Bool} (hini : ini = true → meth.name = "<init>") (hg : pfld P x ini w s = some s')
    (hd : decode cd.code pc = .ok (.putfield x, 3)) {L : Array Slot} {r : List Value} :
    ∃ T' locs', Stand p l e R s₀ m args below meth cd T' locs' cells slots ∧ Inv P Z n0 adr mi c s' h0 T'.heap locs' ∧ ∀ t, Steps p.tables e below (T'.setTop (mkF m (pc + 3) L r)) t → Steps p.tables e below (T.setTop (mkF m pc L (w :: .ref adr :: r))) t := by
  obtain ⟨H, hFr, hK, hS⟩ := I
  obtain ⟨nF, hnF⟩ := LK.1.1
  unfold pfld at hg
  split at hg
  · cases hg
  · rename_i k e1
    split at hg
    · cases hg
    · rename_i fe e2
      split at hg
      · cases hg
      · rename_i e3
        have hL : (Cond.lays P.nm P.nm fe.1 fe.2.1).before a0 Z = true ∨ ((Cond.laysFinal P.nm P.nm fe.1 fe.2.1).before a0 Z = true ∧ P.nm = P.nm ∧ meth.name = "<init>") := by
          have q := LK.2.2.1 k fe e2
          split at q
          · rename_i e4
            refine Or.inr ⟨q, rfl, hini ?_⟩
            cases ini
            · exact absurd ⟨e4, rfl⟩ e3
            · rfl
          · exact Or.inl q
        have hp := LK.2.2.2.1 k fe e2
        have fin : ∀ {T' : State} {h' : Heap} {v' : Value}, Stand p l e R s₀ m args below meth cd T' (locs ++ [⟨adr, RoadKit.slotOf Z P.nm fe.1 fe.2.1⟩]) cells slots → T'.heap = h' → Wr T.heap h' adr (RoadKit.slotOf Z P.nm fe.1 fe.2.1) v' → v' = Fval adr c s' k fe →
            (∀ a b, (a ≠ 0 ∨ b ≠ k) → gI s' a b = gI s a b ∧ gL s' a b = gL s a b) → Inv P Z n0 adr mi c s' h0 T'.heap (locs ++ [⟨adr, RoadKit.slotOf Z P.nm fe.1 fe.2.1⟩]) := fun {T' h' v'} X' e4 W e5 e6 => by
          rw [e4]
          exact ⟨H.putFld LK e2 W e5 e6, Fr.snoc X' hFr hna, hK.wr W (Nat.le_refl _) (by omega), by rw [W.size]; exact hS⟩
        split at hg
        · rename_i z e4
          cases hg
          rw [e4] at hp
          obtain ⟨T', h', X', q1, W, st⟩ := putF X hx hZ hown (host := "") (Or.inl (LK.2.1 _ _ e1 _ e2)) Via.refl rfl (H.2.1 k fe e2) H.1 hL hnF hp (narrow_I z) rfl (g := mkF m pc L (.int z :: .ref adr :: r)) rfl rfl hd
          refine ⟨T', _, X', fin X' q1 W (by simp only [Fval, e4]; simp [gI_sI]) (fun a b hab => ?_), st⟩
          rw [gI_sI, gL_sI, if_neg (by omega)]; exact ⟨rfl, rfl⟩
        · rename_i z e4
          cases hg
          rw [e4] at hp
          obtain ⟨T', h', X', q1, W, st⟩ := putFN X hx hZ hown (LK.2.1 _ _ e1 _ e2) Via.refl rfl (H.2.1 k fe e2) H.1 hL hnF (v' := .int (z &&& 1)) hp rfl (fits_nar_bool z) (g := mkF m pc L (.int z :: .ref adr :: r)) rfl rfl hd
          refine ⟨T', _, X', fin X' q1 W (by simp only [Fval, e4]; simp [gI_sI]) (fun a b hab => ?_), st⟩
          rw [gI_sI, gL_sI, if_neg (by omega)]; exact ⟨rfl, rfl⟩
        · rename_i z e4
          cases hg
          rw [e4] at hp
          obtain ⟨T', h', X', q1, W, st⟩ := putF X hx hZ hown (host := "") (Or.inl (LK.2.1 _ _ e1 _ e2)) Via.refl rfl (H.2.1 k fe e2) H.1 hL hnF hp rfl rfl (g := mkF m pc L (.long z :: .ref adr :: r)) rfl rfl hd
          refine ⟨T', _, X', fin X' q1 W (by simp only [Fval, e4]; simp [gL_sL]) (fun a b hab => ?_), st⟩
          rw [gL_sL, gI_sL, if_neg (by omega)]; exact ⟨rfl, rfl⟩
        · cases hg
theorem lda_spec {tt : Nat} {st st' : List Value} (hl : lda P tt c st s = some st') : ∃ i a r N, st = .int i :: .ref (a + 1) :: r ∧ P.al[a]? = some (tt, N) ∧ a < c ∧ inb N i ∧ st' = elv tt s (a + 1) (ix i) :: r := by
  unfold lda at hl
  split at hl
  · rename_i i a r
    split at hl
    · rename_i t2 N e1
      split at hl
      · rename_i e2
        obtain ⟨rfl, e3⟩ := e2
        split at hl
        · rename_i e4; cases hl; exact ⟨i, a, r, N, rfl, e1, e3, e4, rfl⟩
        · cases hl
      · cases hl
    · cases hl
  · cases hl
theorem va_elv (ρ : Nat → Nat) (tt : Nat) (s : St) (j i : Nat) : va ρ (elv tt s j i) = elv tt s j i := by unfold elv; split <;> rfl
theorem st_lda (X : Stand p l e R s₀ m args below meth cd T locs cells slots) (hx : p.tables.exec = Jvm.exec) (hZ : Z.Warmed39 s₀.vm) (H : HRep P Z T.heap adr c s) {tt pc : Nat} {st st' : List Value} (hl : lda P tt c st s = some st') {i : Instr}
    (hi : (tt = 0 ∧ i = .iaload) ∨ (tt = 1 ∧ i = .baload) ∨ (tt = 2 ∧ i = .laload)) (hd : decode cd.code pc = .ok (i, 1)) {L : Array Slot} :
    ∀ t, Steps p.tables e below (T.setTop (mkF m (pc + 1) L (st'.map (va (adr + ·))))) t → Steps p.tables e below (T.setTop (mkF m pc L (st.map (va (adr + ·))))) t := by
  obtain ⟨j, a, r, N, rfl, e1, e2, e3, rfl⟩ := lda_spec hl
  obtain ⟨cl, A, hN, hv⟩ := H.2.2.1 a tt N e1 e2
  have hin : ¬ (j < 0 ∨ cl.slots.size ≤ j.toNatClampNeg) := by rw [hN]; exact inb_not e3
  have hat : cl.slots[j.toNatClampNeg]? = some (elv tt s (a + 1) (ix j)) := hv (ix j) (inb_ix e3)
  intro t q
  rw [List.map_cons, va_elv] at q
  rcases hi with ⟨rfl, rfl⟩ | ⟨rfl, rfl⟩ | ⟨rfl, rfl⟩
  · exact X.iaload hx A.1 (State.isArrayOf_alike hZ.alike A.2.1) A.2.2 hin hat (g := mkF m pc L (.int j :: .ref (adr + (a + 1)) :: r.map (va (adr + ·)))) rfl rfl hd t q
  · exact X.baloadBooleans hx A.1 (State.isArrayOf_alike hZ.alike A.2.1) A.2.2 hin hat (g := mkF m pc L (.int j :: .ref (adr + (a + 1)) :: r.map (va (adr + ·)))) rfl rfl hd t q
  · exact X.laload hx A.1 (State.isArrayOf_alike hZ.alike A.2.1) A.2.2 hin hat (g := mkF m pc L (.int j :: .ref (adr + (a + 1)) :: r.map (va (adr + ·)))) rfl rfl hd t q
theorem sta_spec {tt : Nat} {st st' : List Value} (hl : sta P tt c st s = some (st', s')) : ∃ v i a N, st = v :: .int i :: .ref (a + 1) :: st' ∧ P.al[a]? = some (tt, N) ∧ a < c ∧ inb N i ∧
    ((tt = 0 ∧ ∃ z, v = .int z ∧ s' = sI s (a + 1) (ix i) z) ∨ (tt = 1 ∧ ∃ z, v = .int z ∧ s' = sI s (a + 1) (ix i) (z &&& 1)) ∨ (tt = 2 ∧ ∃ z, v = .long z ∧ s' = sL s (a + 1) (ix i) z)) := by
  unfold sta at hl
  split at hl
  · rename_i v i a r
    split at hl
    · rename_i t2 N e1
      split at hl
      · rename_i e2
        obtain ⟨rfl, e3⟩ := e2
        split at hl
        · rename_i e4
          split at hl
          · cases hl; exact ⟨_, i, a, N, rfl, e1, e3, e4, Or.inl ⟨rfl, _, rfl, rfl⟩⟩
          · cases hl; exact ⟨_, i, a, N, rfl, e1, e3, e4, Or.inr (Or.inl ⟨rfl, _, rfl, rfl⟩)⟩
          · cases hl; exact ⟨_, i, a, N, rfl, e1, e3, e4, Or.inr (Or.inr ⟨rfl, _, rfl, rfl⟩)⟩
          · cases hl
        · cases hl
      · cases hl
    · cases hl
  · cases hl
theorem st_sta (X : Stand p l e R s₀ m args below meth cd T locs cells slots) (hx : p.tables.exec = Jvm.exec) (hZ : Z.Warmed39 s₀.vm) (hna : n0 ≤ adr) (I : Inv P Z n0 adr mi c s h0 T.heap locs) {tt pc : Nat} {st st' : List Value} (hl : sta P tt c st s = some (st', s')) {i : Instr}
    (hi : (tt = 0 ∧ i = .iastore) ∨ (tt = 1 ∧ i = .bastore) ∨ (tt = 2 ∧ i = .lastore)) (hd : decode cd.code pc = .ok (i, 1)) {L : Array Slot} :
    ∃ T' locs', Stand p l e R s₀ m args below meth cd T' locs' cells slots ∧ Inv P Z n0 adr mi c s' h0 T'.heap locs' ∧ ∀ t, Steps p.tables e below (T'.setTop (mkF m (pc + 1) L (st'.map (va (adr + ·))))) t → Steps p.tables e below (T.setTop (mkF m pc L (st.map (va (adr + ·))))) t := by
  obtain ⟨H, hFr, hK, hS⟩ := I
  obtain ⟨v, j, a, N, rfl, e1, e2, e3, e4⟩ := sta_spec hl
  obtain ⟨cl, A, hN, hv⟩ := H.2.2.1 a tt N e1 e2
  have hin : ¬ (j < 0 ∨ cl.slots.size ≤ j.toNatClampNeg) := by rw [hN]; exact inb_not e3
  have hal := (List.getElem?_eq_some_iff.mp e1).1
  have fin : ∀ {T' : State} {h' : Heap} {v' : Value}, Stand p l e R s₀ m args below meth cd T' (locs ++ [⟨adr + (a + 1), j.toNatClampNeg⟩]) cells slots → T'.heap = h' → Wr T.heap h' (adr + (a + 1)) j.toNatClampNeg v' → v' = elv tt s' (a + 1) (ix j) →
      (∀ x y, (x ≠ a + 1 ∨ y ≠ ix j) → gI s' x y = gI s x y ∧ gL s' x y = gL s x y) → Inv P Z n0 adr mi c s' h0 T'.heap (locs ++ [⟨adr + (a + 1), j.toNatClampNeg⟩]) := fun {T' h' v'} X' q1 W q2 q3 => by
    rw [q1]
    exact ⟨H.putArr e1 e2 (inb_ix e3) W q2 q3, Fr.snoc X' hFr (by omega), hK.wr W (by omega) (by omega), by rw [W.size]; exact hS⟩
  rcases e4 with ⟨rfl, z, rfl, rfl⟩ | ⟨rfl, z, rfl, rfl⟩ | ⟨rfl, z, rfl, rfl⟩
  · obtain ⟨-, rfl⟩ : (0 : Nat) = 0 ∧ i = .iastore := by rcases hi with q | q | q <;> first | exact q | (have := q.1; omega)
    obtain ⟨T', h', X', q1, W, st⟩ := stI X hx hZ rfl A hin (g := mkF m pc L (.int z :: .int j :: .ref (adr + (a + 1)) :: st'.map (va (adr + ·)))) rfl rfl hd
    refine ⟨T', _, X', fin X' q1 W (by simp [elv, gI_sI, ix]) (fun x y hxy => ?_), st⟩
    rw [gI_sI, gL_sI, if_neg (fun q => hxy.elim (fun z => z q.1) (fun z => z q.2))]; exact ⟨rfl, rfl⟩
  · obtain ⟨-, rfl⟩ : (1 : Nat) = 1 ∧ i = .bastore := by rcases hi with q | q | q <;> first | exact q | (have := q.1; omega)
    obtain ⟨T', h', X', q1, W, st⟩ := stZ X hx hZ rfl A hin (g := mkF m pc L (.int z :: .int j :: .ref (adr + (a + 1)) :: st'.map (va (adr + ·)))) rfl rfl hd
    refine ⟨T', _, X', fin X' q1 W (by simp [elv, gI_sI, ix, nar]) (fun x y hxy => ?_), st⟩
    rw [gI_sI, gL_sI, if_neg (fun q => hxy.elim (fun z => z q.1) (fun z => z q.2))]; exact ⟨rfl, rfl⟩
  · obtain ⟨-, rfl⟩ : (2 : Nat) = 2 ∧ i = .lastore := by rcases hi with q | q | q <;> first | exact q | (have := q.1; omega)
    obtain ⟨T', h', X', q1, W, st⟩ := stJ X hx hZ rfl A hin (g := mkF m pc L (.long z :: .int j :: .ref (adr + (a + 1)) :: st'.map (va (adr + ·)))) rfl rfl hd
    refine ⟨T', _, X', fin X' q1 W (by simp [elv, gL_sL, ix]) (fun x y hxy => ?_), st⟩
    rw [gL_sL, gI_sL, if_neg (fun q => hxy.elim (fun z => z q.1) (fun z => z q.2))]; exact ⟨rfl, rfl⟩
theorem newF_spec {t : ArrayType} {code : Cd} {pc : Nat} {st : List Value} (h : newF P t code pc c st = true) : ∃ n x k fe tt N, st = [.int n, .ref 0] ∧ fetch code (pc + 2) = some (.putfield x, 3) ∧ asc P.fx x = some k ∧ asc P.fs k = some fe ∧ P.al[c]? = some (tt, N) ∧
    fe.2.2.1 = c + 3 ∧ t = atOf tt ∧ 0 ≤ n.toInt ∧ n.toInt = N ∧ N < 1000000 := by
  unfold newF at h
  split at h
  · rename_i n
    split at h
    · rename_i x e1
      split at h
      · rename_i k e2
        split at h
        · rename_i fe e3
          split at h
          · rename_i tt N e4
            obtain ⟨q1, q2, q3, q4, q5⟩ := of_decide_eq_true h
            exact ⟨n, x, k, fe, tt, N, rfl, e1, e2, e3, e4, q1, q2, q3, q4, q5⟩
          · cases h
        · cases h
      · cases h
    · cases h
  · cases h
theorem ty_at {tt : Nat} (h : tt ≤ 2) : newarray.typeOf (atOf tt) = tyOf tt := by
  have : tt = 0 ∨ tt = 1 ∨ tt = 2 := by omega
  rcases this with rfl | rfl | rfl <;> rfl
theorem st_new (LK : LinkC P Z a0) {me : Me} (hme : asc P.ms 0 = some me) (hnm : meth.name = me.nm) (X : Stand p l e (cRoom P 0 me) s₀ m args below meth cd T locs (co 0 c) (zo P 0 c)) (hx : p.tables.exec = Jvm.exec) (hZ : Z.Warmed39 s₀.vm) (hown : s₀.vm.findClass P.nm = some m.cls) (hna : n0 ≤ adr) (hs0 : s₀.heap.size = adr + 1) (I : Inv P Z n0 adr 0 c s h0 T.heap locs)
    (hdec : ∀ pc i n, fetch me.cd pc = some (i, n) → decode cd.code pc = .ok (i, n) ∧ (isSw i = true ∨ n = ilen i)) {t : ArrayType} {pc : Nat} {st : List Value} (h : newF P t me.cd pc c st = true) (hd : decode cd.code pc = .ok (.newarray t, 2)) {L : Array Slot} :
    ∃ T' locs', Stand p l e (cRoom P 0 me) s₀ m args below meth cd T' locs' (co 0 (c + 1)) (zo P 0 (c + 1)) ∧ Inv P Z n0 adr 0 (c + 1) s h0 T'.heap locs' ∧ ∀ t, Steps p.tables e below (T'.setTop (mkF m (pc + 5) L [])) t → Steps p.tables e below (T.setTop (mkF m pc L (st.map (va (adr + ·))))) t := by
  obtain ⟨H, hFr, hK, hS⟩ := I
  obtain ⟨nF, hnF⟩ := LK.1.1
  obtain ⟨n, x, k, fe, tt, N, rfl, e1, e2, e3, e4, e5, rfl, e6, e7, e8⟩ := newF_spec h
  obtain ⟨htt, hac⟩ := LK.2.2.2.2.2.1 _ _ _ e4
  have hal := (List.getElem?_eq_some_iff.mp e4).1
  have hS' : T.heap.size = adr + 1 + c := hS
  have hty := ty_at htt
  have hini : meth.name = "<init>" := by rw [hnm]; exact LK.2.2.2.2.2.2.2.2.2.2.2.2 me hme
  have hLy : (Cond.lays P.nm P.nm fe.1 fe.2.1).before a0 Z = true ∨ ((Cond.laysFinal P.nm P.nm fe.1 fe.2.1).before a0 Z = true ∧ P.nm = P.nm ∧ meth.name = "<init>") := by
    have q := LK.2.2.1 k fe e3
    split at q
    · exact Or.inr ⟨q, rfl, hini⟩
    · exact Or.inl q
  have hzc := zs_succ P.al e4
  have hzm := zs_le P.al (c + 1)
  obtain ⟨T1, hp1, cA, X1, q1, E, A, st1⟩ := newP X hx hZ (aty := atOf tt) (by rw [hty]; exact hac) rfl (g := mkF m pc L [.int n, .ref adr]) rfl hd rfl (by rw [Int32.lt_iff_toInt_lt]; simp only [Int32.reduceToInt]; omega) (cap := N)
    (by simp only [Int32.toNatClampNeg]; omega) (by omega) (by simp only [co, cRoom, if_true]; omega) (by simp only [zo, cRoom, if_true]; omega)
  rw [hty] at A
  have hp := LK.2.2.2.1 k fe e3
  rw [e5] at hp
  obtain ⟨d2, -⟩ := hdec _ _ _ e1
  have hsz1 : hp1.size = adr + 1 + (c + 1) := by
    have hh : T1.heap.size ≤ s₀.heap.size + (c + 1) := X1.heapSize
    have g2 : T.heap.size < Array.size hp1 := A.lt
    rw [q1, hs0] at hh
    rw [hS'] at g2
    omega
  obtain ⟨T2, hp2, X2, q2, W, st2⟩ := putF X1 hx hZ hown (host := "") (Or.inl (LK.2.1 _ _ e2 _ e3)) Via.refl q1 ((H.2.1 k fe e3).ext E) (H.1.ext E) hLy hnF (v := .ref T.heap.size) hp rfl rfl (g := mkF m (pc + 2) L [.ref T.heap.size, .ref adr]) rfl rfl d2
  refine ⟨T2, _, by simpa [co, zo, hzc] using X2, ?_, fun t q => st1 _ (st2 _ q)⟩
  rw [q2]
  refine ⟨H.newArr LK e3 e5 e4 e6 e7 hS' E A W, Fr.snoc X2 hFr hna, ?_, by rw [W.size, hsz1]; simp⟩
  exact (hK.ext E (by rw [hsz1]; omega) (by omega)).wr W (Nat.le_refl _) (by omega)
end Steps
end Jvm.LM

namespace Jvm.LM
open Sem ClassFile Op Lib Jvm.Stand Jvm.Free Jvm.LawKit Jvm.RoadKit
theorem cret_spec {me : Me} {st : List Value} {i : Instr} {v : Option Value} (h : cret me st i = some v) :
    (∃ x, i = .ireturn ∧ st = [.int x] ∧ ((me.rt = 1 ∧ v = some (.int x)) ∨ (me.rt = 2 ∧ v = some (.int (x &&& 1))))) ∨ (∃ x, i = .lreturn ∧ st = [.long x] ∧ me.rt = 3 ∧ v = some (.long x)) ∨ (i = .return_ ∧ st = [] ∧ me.rt = 0 ∧ v = none) := by
  unfold cret at h
  split at h
  · split at h
    · rename_i x
      split at h
      · rename_i e1; cases h; exact Or.inl ⟨x, rfl, rfl, Or.inl ⟨e1, rfl⟩⟩
      · split at h
        · rename_i e1; cases h; exact Or.inl ⟨x, rfl, rfl, Or.inr ⟨e1, rfl⟩⟩
        · cases h
    · cases h
  · split at h
    · rename_i x
      split at h
      · rename_i e1; cases h; exact Or.inr (Or.inl ⟨x, rfl, rfl, e1, rfl⟩)
      · cases h
    · cases h
  · split at h
    · split at h
      · rename_i e1; cases h; exact Or.inr (Or.inr ⟨rfl, rfl, e1, rfl⟩)
      · cases h
    · cases h
  · cases h
section Ret
variable {p : Program} {l : Launch} {e : Env} {R : Room} {s₀ : State} {m : MethodId} {args : Array Value} {below : List Frame} {meth : Method} {cd : Code} {T : State} {locs : List Loc} {cells slots : Nat}
theorem retI' (X : Stand p l e R s₀ m args below meth cd T locs cells slots) (hx : p.tables.exec = Jvm.exec) {pc : Nat} {Ls : Array Slot} {z : Int32} {rest : List Value} (hret : meth.sig.returnType = some .int) (hd : decode cd.code pc = .ok (.ireturn, 1)) {fs : List Frame}
    (hl : ∀ (f : JFrame) (acts : List Action), f.method = m → f.locked = none → f.entered = [] → (doReturn e (T.setTop f) acts (some (.int z))).1 = T.setFrames fs) : Steps p.tables e below (T.setTop (mkF m pc Ls (.int z :: rest))) (T.setFrames fs) :=
  retOut X hx (t := .int) (i := .ireturn) hret rfl (Or.inl ⟨rfl, Or.inl rfl, z, rfl⟩) hd hl
theorem st_ret (X : Stand p l e R s₀ m args below meth cd T locs cells slots) (hx : p.tables.exec = Jvm.exec) {me : Me} (hret : meth.sig.returnType = retOf me.rt) (hlk : meth.locks = false) {ρ : Nat → Nat} {st : List Value} {i : Instr} {v : Option Value} (h : cret me st i = some v) {pc n : Nat} (hd : decode cd.code pc = .ok (i, n)) (hn : isSw i = true ∨ n = ilen i)
    {Q : Option Value → Heap → List Loc → Prop} (hQ : Q v T.heap locs) (hc : cells ≤ R.cells) (hs : slots ≤ R.slots) {L : Array Slot} : Don p e below s₀ R Q (T.setTop (mkF m pc L (st.map (va ρ)))) := by
  rcases cret_spec h with ⟨x, rfl, rfl, h1⟩ | ⟨x, rfl, rfl, h1, rfl⟩ | ⟨rfl, rfl, h1, rfl⟩
  · obtain rfl := hn.resolve_left Bool.false_ne_true
    rcases h1 with ⟨h1, rfl⟩ | ⟨h1, rfl⟩
    · rw [h1] at hret
      obtain ⟨fs, hr, hrun, hended, hW, hsame⟩ := X.leave (v := some (.int x)) (fun q => by rw [hret] at q; cases q) hlk
      exact ⟨_, _, retI' X hx hret hd hr, hrun, hended, _, _, rfl, hQ, ⟨_, rfl⟩, hW, hsame.mono hc hs⟩
    · rw [h1] at hret
      obtain ⟨fs, hr, hrun, hended, hW, hsame⟩ := X.leave (v := some (.int (x &&& 1))) (fun q => by rw [hret] at q; cases q) hlk
      exact ⟨_, _, retN X hx (t := .boolean) hret (Or.inl rfl) hd hr, hrun, hended, _, _, rfl, hQ, ⟨_, rfl⟩, hW, hsame.mono hc hs⟩
  · obtain rfl := hn.resolve_left Bool.false_ne_true
    rw [h1] at hret
    obtain ⟨fs, hr, hrun, hended, hW, hsame⟩ := X.leave (v := some (.long x)) (fun q => by rw [hret] at q; cases q) hlk
    exact ⟨_, _, retOut X hx (t := .long) (i := .lreturn) hret rfl (Or.inr (Or.inl ⟨rfl, rfl, x, rfl⟩)) hd hr, hrun, hended, _, _, rfl, hQ, ⟨_, rfl⟩, hW, hsame.mono hc hs⟩
  · obtain rfl := hn.resolve_left Bool.false_ne_true
    rw [h1] at hret
    obtain ⟨fs, hr, hrun, hended, hW, hsame⟩ := X.leave (v := none) (fun _ => rfl) hlk
    exact ⟨_, _, X.returnOut hx hret hd hr, hrun, hended, _, _, rfl, hQ, ⟨_, rfl⟩, hW, hsame.mono hc hs⟩
end Ret
theorem cret_va {me : Me} {st : List Value} {i : Instr} {v : Option Value} (h : cret me st i = some v) (ρ : Nat → Nat) : v.toList.map (va ρ) = v.toList := by
  rcases cret_spec h with ⟨x, rfl, rfl, ⟨-, rfl⟩ | ⟨-, rfl⟩⟩ | ⟨x, rfl, rfl, -, rfl⟩ | ⟨rfl, rfl, -, rfl⟩ <;> rfl
theorem nd_rev {ρ : Nat → Nat} {as : List Value} (h : nd as = true) : ∀ v ∈ (Value.ref 0 :: as.reverse), ∀ x, v ≠ .double x := fun v hv x e => by
  rcases List.mem_cons.mp hv with q | q
  · subst q; cases e
  · exact nd_spec h v (List.mem_reverse.mp q) x e
theorem pfld_va {P : Cl} {x : Nat} {ini : Bool} {w : Value} {s s1 : St} (hg : pfld P x ini w s = some s1) (ρ : Nat → Nat) : va ρ w = w := by
  cases w <;> first | rfl | skip
  exfalso
  unfold pfld at hg
  split at hg
  · cases hg
  · split at hg
    · cases hg
    · split at hg
      · cases hg
      · split at hg
        · rename_i q; cases q
        · rename_i q; cases q
        · rename_i q; cases q
        · cases hg
theorem cwalk {P : Cl} {Z : State} {a0 : Array Value} (LK : LinkC P Z a0) {n0 adr : Nat} (hna : n0 ≤ adr) : ∀ f mi me, asc P.ms mi = some me → CW P Z n0 adr f mi me := by
  intro f
  induction f with
  | zero =>
    intro mi me hme p l e s₀ m args below meth cd T locs h0 c pc ls st s v s' L hx hZ hown hnm hret hml hlk hs0 hdec hr
    cases hr
  | succ f ih =>
    intro mi me hme p l e s₀ m args below meth cd T locs h0 c pc ls st s v s' L hx hZ hown hnm hret hml hlk hs0 hdec hr X I hL hlen
    simp only [cexec] at hr
    split at hr
    · cases hr
    · rename_i i n hf
      obtain ⟨hd, hn⟩ := hdec pc i n hf
      have ihk := ih mi me hme
      have hsize : L.size = cd.maxLocals := by rw [hL.1, hlen, hml]
      obtain ⟨nF, hnF⟩ := LK.1.1
      unfold cstep at hr
      split at hr
      -- getfield
      · obtain rfl := hn.resolve_left Bool.false_ne_true
        split at hr
        · rename_i r
          split at hr
          · rename_i w hg
            obtain ⟨T', X', q1, st⟩ := st_get LK X hx hZ hown I.1 hg hd (L := L) (r := r.map (va (adr + ·)))
            exact Don.step st (ihk p l e s₀ m args below meth cd T' locs h0 c _ ls (w :: r) s v s' L hx hZ hown hnm hret hml hlk hs0 hdec hr X' (by rw [q1]; exact I) hL hlen)
          · cases hr
        · cases hr
      -- putfield
      · obtain rfl := hn.resolve_left Bool.false_ne_true
        split at hr
        · rename_i w r
          split at hr
          · rename_i s1 hg
            have hini : (mi == 0) = true → meth.name = "<init>" := fun q => by
              have q : mi = 0 := by simpa using q
              subst q; rw [hnm]; exact LK.2.2.2.2.2.2.2.2.2.2.2.2 me hme
            have hw : va (adr + ·) w = w := pfld_va hg _
            obtain ⟨T', locs', X', I', st⟩ := st_put LK X hx hZ hown hna I hini hg hd (L := L) (r := r.map (va (adr + ·)))
            refine Don.step (fun t q => ?_) (ihk p l e s₀ m args below meth cd T' locs' h0 c _ ls r s1 v s' L hx hZ hown hnm hret hml hlk hs0 hdec hr X' I' hL hlen)
            have := st t q
            rw [List.map_cons, hw]; exact this
          · cases hr
        · cases hr
      -- loads of arrays
      · obtain rfl := hn.resolve_left Bool.false_ne_true
        split at hr
        · rename_i st' hg
          exact Don.step (st_lda X hx hZ I.1 hg (Or.inl ⟨rfl, rfl⟩) hd) (ihk p l e s₀ m args below meth cd T locs h0 c _ ls st' s v s' L hx hZ hown hnm hret hml hlk hs0 hdec hr X I hL hlen)
        · cases hr
      · obtain rfl := hn.resolve_left Bool.false_ne_true
        split at hr
        · rename_i st' hg
          exact Don.step (st_lda X hx hZ I.1 hg (Or.inr (Or.inl ⟨rfl, rfl⟩)) hd) (ihk p l e s₀ m args below meth cd T locs h0 c _ ls st' s v s' L hx hZ hown hnm hret hml hlk hs0 hdec hr X I hL hlen)
        · cases hr
      · obtain rfl := hn.resolve_left Bool.false_ne_true
        split at hr
        · rename_i st' hg
          exact Don.step (st_lda X hx hZ I.1 hg (Or.inr (Or.inr ⟨rfl, rfl⟩)) hd) (ihk p l e s₀ m args below meth cd T locs h0 c _ ls st' s v s' L hx hZ hown hnm hret hml hlk hs0 hdec hr X I hL hlen)
        · cases hr
      -- stores into arrays
      · obtain rfl := hn.resolve_left Bool.false_ne_true
        split at hr
        · rename_i st' s1 hg
          obtain ⟨T', locs', X', I', st⟩ := st_sta X hx hZ hna I hg (Or.inl ⟨rfl, rfl⟩) hd (L := L)
          exact Don.step st (ihk p l e s₀ m args below meth cd T' locs' h0 c _ ls st' s1 v s' L hx hZ hown hnm hret hml hlk hs0 hdec hr X' I' hL hlen)
        · cases hr
      · obtain rfl := hn.resolve_left Bool.false_ne_true
        split at hr
        · rename_i st' s1 hg
          obtain ⟨T', locs', X', I', st⟩ := st_sta X hx hZ hna I hg (Or.inr (Or.inl ⟨rfl, rfl⟩)) hd (L := L)
          exact Don.step st (ihk p l e s₀ m args below meth cd T' locs' h0 c _ ls st' s1 v s' L hx hZ hown hnm hret hml hlk hs0 hdec hr X' I' hL hlen)
        · cases hr
      · obtain rfl := hn.resolve_left Bool.false_ne_true
        split at hr
        · rename_i st' s1 hg
          obtain ⟨T', locs', X', I', st⟩ := st_sta X hx hZ hna I hg (Or.inr (Or.inr ⟨rfl, rfl⟩)) hd (L := L)
          exact Don.step st (ihk p l e s₀ m args below meth cd T' locs' h0 c _ ls st' s1 v s' L hx hZ hown hnm hret hml hlk hs0 hdec hr X' I' hL hlen)
        · cases hr
      -- newarray and putfield
      · obtain rfl := hn.resolve_left Bool.false_ne_true
        split at hr
        · rename_i hg
          obtain ⟨rfl, hg⟩ := hg
          obtain ⟨T', locs', X', I', st⟩ := st_new LK hme hnm X hx hZ hown hna (hs0 rfl) I hdec hg hd (L := L)
          exact Don.step st (ihk p l e s₀ m args below meth cd T' locs' h0 (c + 1) _ ls [] s v s' L hx hZ hown hnm hret hml hlk hs0 hdec hr X' I' hL hlen)
        · cases hr
      -- constants
      · obtain rfl := hn.resolve_left Bool.false_ne_true
        split at hr
        · rename_i z hg
          exact Don.step (fun t q => X.ldcI hx hown (mv hZ (LK.2.2.2.2.2.2.1 _ _ hg)) (g := mkF m pc L (st.map (va (adr + ·)))) rfl hd q) (ihk p l e s₀ m args below meth cd T locs h0 c _ ls (.int z :: st) s v s' L hx hZ hown hnm hret hml hlk hs0 hdec hr X I hL hlen)
        · cases hr
      · obtain rfl := hn.resolve_left Bool.false_ne_true
        split at hr
        · rename_i z hg
          exact Don.step (fun t q => X.ldc2J hx hown (mv hZ (LK.2.2.2.2.2.2.1 _ _ hg)) (g := mkF m pc L (st.map (va (adr + ·)))) rfl hd q) (ihk p l e s₀ m args below meth cd T locs h0 c _ ls (.long z :: st) s v s' L hx hZ hown hnm hret hml hlk hs0 hdec hr X I hL hlen)
        · cases hr
      -- Object's constructor
      · obtain rfl := hn.resolve_left Bool.false_ne_true
        split at hr
        · rename_i r
          split at hr
          · rename_i hg
            obtain ⟨rfl, hg1, hg2⟩ := hg
            obtain ⟨w1, w2, w3⟩ := LK.2.2.2.2.2.2.2.1
            obtain ⟨T', X', q1, st⟩ := initO X hx hZ hown w1 w2 w3 rfl (g := mkF m pc L (.ref adr :: r.map (va (adr + ·)))) rfl hsize rfl hd hg1 (W := cats r) (by show 2 * 0 + _ ≤ _; rw [cats_va]; omega) hg2
            exact Don.step st (ihk p l e s₀ m args below meth cd T' locs h0 c _ ls r s v s' L hx hZ hown hnm hret hml hlk hs0 hdec hr X' (by rw [q1]; exact I) hL hlen)
          · cases hr
        · cases hr
      -- a call
      · obtain rfl := hn.resolve_left Bool.false_ne_true
        split at hr
        · cases hr
        · rename_i m' hm'
          split at hr
          · cases hr
          · rename_i me' hme'
            split at hr
            · rename_i r hst
              split at hr
              · rename_i hg
                obtain ⟨hg0, hg1, hg2, hg3⟩ := hg
                dsimp only at hr
                rw [hme'] at hr
                dsimp only at hr
                obtain ⟨bytes, ps, hcode, hdec', hpar, hpl⟩ := LK.2.2.2.2.2.2.2.2.1 m' me' hme'
                obtain ⟨w1, w2, w3⟩ := LK.2.2.2.2.2.2.2.2.2.1 _ _ hm' _ hme'
                by_cases hla : (layA (Value.ref 0 :: (st.take me'.na).reverse)).length ≤ me'.ml
                · rw [if_pos hla] at hr
                  cases hcl : cexec P f m' me' c 0 (lay (.ref 0 :: (st.take me'.na).reverse) me'.ml) [] s with
                  | none => rw [hcl] at hr; cases hr
                  | some vs =>
                    obtain ⟨w, s1⟩ := vs
                    rw [hcl] at hr
                    have hr' : cexec P f mi me c (pc + 3) ls (w.toList ++ r) s1 = some (v, s') := by cases w <;> exact hr
                    have hM := met_of_CW LK hme' (ih m' me' hme') l hdec' (as := .ref 0 :: (st.take me'.na).reverse) (nd_rev (ρ := id) hg3) hla hcl (fun q => absurd q hg0) I.1 (fun q => absurd q hg0)
                    have hB := backOf (R := cRoom P mi me) (p := p) (e := e) (below := below) (s := s₀) (args := args) (len := 3) (W := cats r) hM hZ hcode LK.1.2 hg1 hg2
                    have hdl : me'.na < st.length := by
                      have := congrArg List.length hst
                      simp at this; omega
                    have hsp : st = st.take me'.na ++ .ref 0 :: r := by rw [← hst, List.take_append_drop]
                    have hcell := I.1.1.cell
                    obtain ⟨cel, hc1, hc2⟩ := hcell
                    have key : ∃ (v' : Option Value) (U : State) (Lc : List Loc), Stand p l e (cRoom P mi me) s₀ m args below meth cd U (locs ++ Lc) (co mi c) (zo P mi c) ∧ QC P Z n0 adr m' c w s1 T.heap v' U.heap Lc ∧
                        Steps p.tables e below (T.setTop (mkF m pc L (st.map (va (adr + ·))))) (U.setTop (mkF m (pc + 3) L (v'.toList ++ r.map (va (adr + ·))))) := by
                      have hsm : st.map (va (adr + ·)) = ((st.take me'.na).reverse.map (va (adr + ·))).reverse ++ .ref adr :: r.map (va (adr + ·)) := by
                        conv => lhs; rw [hsp]
                        simp [va]
                      have hll : ∀ sig, parseMethodDescriptor (yOf P me').desc = some sig → ((st.take me'.na).reverse.map (va (adr + ·))).length = sig.parameters.length := lenOf hpar (by simp [hpl]; omega)
                      have hpre : ∀ vm₁, s₀.WarmedH vm₁ → ((Value.ref adr :: (st.take me'.na).reverse.map (va (adr + ·))).toArray = ((Value.ref 0 :: (st.take me'.na).reverse).map (va (adr + ·))).toArray ∧ (T.setVm vm₁).heap = T.heap ∧ co mi c + (cRoom P m' me').cells ≤ (cRoom P mi me).cells ∧ zo P mi c + (cRoom P m' me').slots ≤ (cRoom P mi me).slots) := fun vm₁ _ => by
                        refine ⟨by simp [va], rfl, ?_, ?_⟩
                        · simp only [co, cRoom, if_neg hg0]
                          have := I.1.2.2.2.2
                          split <;> omega
                        · simp only [zo, cRoom, if_neg hg0]
                          have := zs_le P.al c
                          split <;> omega
                      have hz1 : (cRoom P m' me').cells = 0 := by simp [cRoom, hg0]
                      have hz2 : (cRoom P m' me').slots = 0 := by simp [cRoom, hg0]
                      rcases w3 with w3 | ⟨w3, w4⟩
                      · obtain ⟨v', vm₁, ⟨U, lo, ce, sl⟩, -, X', ⟨Lc, hQ, l1, l2, l3⟩, stp⟩ := privCall X hx (y := yOf P me') hown (mv hZ w1) (mv hZ w2) (nF := nF) (mv hZ hnF) (Cond.privateMethod_at (mvP hZ w3 (args := args))) (mv hZ hcode) LK.2.2.2.2.2.2.2.2.2.2.2.1 hB (g := mkF m pc L (st.map (va (adr + ·)))) rfl hsize hc1 hc2 hll hsm (by show 2 * 0 + _ ≤ _; rw [cats_va]; omega) hd hpre
                        dsimp only [Pt.U, Pt.locs, Pt.cells, Pt.slots] at X' hQ l1 l2 l3 stp
                        subst l1 l2 l3
                        rw [hz1, hz2] at X'
                        exact ⟨v', U, Lc, X', hQ, stp⟩
                      · obtain ⟨cq, kq, qa, qb, qc⟩ := isOf hZ rfl I.1.1
                        obtain ⟨v', vm₁, ⟨U, lo, ce, sl⟩, -, X', ⟨Lc, hQ, l1, l2, l3⟩, stp⟩ := X.virtualBack hx (y := yOf P me') (z := yOf P me') hown (mv hZ w1) (mv hZ w3) (notFace_of_selects (args := #[]) (mv hZ w4)) (mv hZ w4) (mv hZ w2) LK.2.2.2.2.2.2.2.2.2.2.2.1 hB qa qc (g := mkF m pc L (st.map (va (adr + ·)))) rfl hsize (Steps.refl _) hll hsm (by show 2 * 0 + _ ≤ _; rw [cats_va]; omega) hd hpre
                        dsimp only [Pt.U, Pt.locs, Pt.cells, Pt.slots] at X' hQ l1 l2 l3 stp
                        subst l1 l2 l3
                        rw [hz1, hz2] at X'
                        exact ⟨v', U, Lc, X', hQ, stp⟩
                    obtain ⟨v', U, Lc, X', ⟨⟨rfl, hva⟩, hF', hH', hK', hS'⟩, stp⟩ := key
                    rw [if_neg hg0] at hH' hS'
                    refine Don.step (fun t q => stp.trans ?_) (ihk p l e s₀ m args below meth cd U (locs ++ Lc) h0 c _ ls (v'.toList ++ r) s1 v s' L hx hZ hown hnm hret hml hlk hs0 hdec hr' X' ⟨hH', I.2.1.app hF', I.2.2.1.trans hK', by rw [hS']; exact I.2.2.2⟩ hL hlen)
                    rw [List.map_append, hva] at q; exact q
                · rw [if_neg hla] at hr; cases hr
              · cases hr
            · cases hr
      -- the rest
      · split at hr
        · split at hr
          · cases hr
          · rename_i h1 hcf
            split at hr
            · rename_i w hw
              cases hr
              have hcf' : mi = 0 → c = P.al.length := fun q => Classical.byContradiction fun z => hcf ⟨q, z⟩
              have hA : HRep P Z T.heap adr (if mi = 0 then P.al.length else c) s := by
                by_cases q : mi = 0
                · rw [if_pos q, ← hcf' q]; exact I.1
                · rw [if_neg q]; exact I.1
              have hB : Array.size T.heap = if mi = 0 then adr + 1 + P.al.length else Array.size h0 := by
                rw [I.2.2.2]
                by_cases q : mi = 0
                · rw [if_pos q, if_pos q, ← hcf' q]
                · rw [if_neg q, if_neg q]
              have hC : co mi c ≤ (cRoom P mi me).cells := by
                simp only [co, cRoom]
                by_cases q : mi = 0
                · rw [if_pos q, if_pos q, ← hcf' q]; exact Nat.le_refl _
                · rw [if_neg q, if_neg q]; exact Nat.le_refl _
              have hD : zo P mi c ≤ (cRoom P mi me).slots := by
                simp only [zo, cRoom]
                by_cases q : mi = 0
                · rw [if_pos q, if_pos q]; exact zs_le _ _
                · rw [if_neg q, if_neg q]; exact Nat.le_refl _
              exact st_ret X hx hret hlk hw hd hn ⟨⟨rfl, cret_va hw⟩, I.2.1, hA, I.2.2.1, hB⟩ hC hD
            · cases hr
        · split at hr
          · rename_i pc' ls' st' hp
            obtain ⟨L', hL', hLs, st⟩ := pstep_sound X hx hp hd hn hL
            have hlen' : ls'.length = me.ml := by rw [← hL'.1, hLs, hL.1]; exact hlen
            exact Don.step st (ihk p l e s₀ m args below meth cd T locs h0 c _ ls' st' s v s' L' hx hZ hown hnm hret hml hlk hs0 hdec hr X I hL' hlen')
          · cases hr
end Jvm.LM

namespace Jvm.LM
open Sem ClassFile Op Lib Jvm.Stand Jvm.Free Jvm.LawKit Jvm.RoadKit
/-! the law's machine: several objects of the class, and one array of ints that it only reads -/
/-- class name, pool to own static method, pool to the class's method, pool index of the constructor, of the class, number of its fields, constants, methods, room: cells, slots -/
abbrev Lw := String × List (Nat × Nat) × List (Nat × Nat) × Nat × Nat × Nat × List (Nat × Value) × List (Nat × Me) × Nat × Nat
def Lw.nm (Q : Lw) : String := Q.1
def Lw.sx (Q : Lw) : List (Nat × Nat) := Q.2.1
def Lw.vx (Q : Lw) : List (Nat × Nat) := Q.2.2.1
def Lw.ci (Q : Lw) : Nat := Q.2.2.2.1
def Lw.cx (Q : Lw) : Nat := Q.2.2.2.2.1
def Lw.nf (Q : Lw) : Nat := Q.2.2.2.2.2.1
def Lw.kx (Q : Lw) : List (Nat × Value) := Q.2.2.2.2.2.2.1
def Lw.ms (Q : Lw) : List (Nat × Me) := Q.2.2.2.2.2.2.2.1
def Lw.rc (Q : Lw) : Nat := Q.2.2.2.2.2.2.2.2.1
def Lw.rs (Q : Lw) : Nat := Q.2.2.2.2.2.2.2.2.2
/-- the objects, how many are made, whether one more is being made -/
abbrev Wd := (Nat → St) × Nat × Bool
abbrev Sc := Option (Nat × (Nat → Int32))
abbrev Rw := Option (Option Value × Wd)
def nr : List Value → Bool
  | [] => true
  | .int _ :: r => nr r
  | .long _ :: r => nr r
  | _ => false
theorem nr_map {l : List Value} (h : nr l = true) (ρ : Nat → Nat) : l.map (va ρ) = l := by
  induction l with
  | nil => rfl
  | cons v r ih => cases v <;> first | (simp only [nr] at h; simp [va, ih h]; done) | (simp [nr] at h)
theorem nr_nd {l : List Value} (h : nr l = true) : nd l = true := by
  induction l with
  | nil => rfl
  | cons v r ih => cases v <;> first | (simp only [nr] at h; simp [nd, ih h]; done) | (simp [nr] at h)
def uo (w : Nat → St) (o : Nat) (s : St) : Nat → St := fun i => if i = o then s else w i
def lstep {α : Type} (P : Cl) (Q : Lw) (sc : Sc) (mi : Nat) (me : Me) (rt : Option Value → Wd → Option α) (cc : Nat → Nat → List Value → St → Rs) (cl : Nat → List Value → Wd → Rw) (k : Nat → Lv → List Value → Wd → Option α) (i : Instr) (pc : Nat) (ls : Lv) (st : List Value) (w : Wd) : Option α :=
  match i with
  | .iaload => match sc, st with
    | some (n, g), .int j :: .ref 0 :: r => if inb n j then k (pc + 1) ls (.int (g (ix j)) :: r) w else none
    | _, _ => none
  | .arraylength => match sc, st with
    | some (n, _), .ref 0 :: r => k (pc + 1) ls (.int (Int32.ofNat n) :: r) w
    | _, _ => none
  | .ldc x => match asc Q.kx x with | some (.int z) => k (pc + 2) ls (.int z :: st) w | _ => none
  | .ldc2_w x => match asc Q.kx x with | some (.long z) => k (pc + 3) ls (.long z :: st) w | _ => none
  | .new x => if mi = 0 ∧ x = Q.cx ∧ w.2.2 = false ∧ (w.2.1 + 1) * (P.al.length + 1) ≤ Q.rc ∧ (w.2.1 + 1) * (Q.nf + zs P.al P.al.length) ≤ Q.rs then
      k (pc + 3) ls (.ref (w.2.1 + 1) :: st) (uo w.1 w.2.1 s0, w.2.1, true) else none
  | .invokespecial x => match asc P.ms 0 with
    | none => none
    | some me' => match st.drop me'.na with
      | .ref (o + 1) :: r => if x = Q.ci ∧ mi = 0 ∧ o = w.2.1 ∧ w.2.2 = true ∧ me'.rf + 1 ≤ me.rf ∧ cats r + (me'.ml + 11) + me'.rl ≤ me.rl ∧ nr (st.take me'.na) = true ∧ (w.2.1 + 1) * (P.al.length + 1) ≤ Q.rc ∧ (w.2.1 + 1) * (Q.nf + zs P.al P.al.length) ≤ Q.rs then
          (match cc 0 0 (.ref 0 :: (st.take me'.na).reverse) (w.1 o) with
           | some (none, s') => k (pc + 3) ls r (uo w.1 o s', w.2.1 + 1, false)
           | _ => none) else none
      | _ => none
  | .invokevirtual x => match asc Q.vx x with
    | none => none
    | some m' => match asc P.ms m' with
      | none => none
      | some me' => match st.drop me'.na with
        | .ref (o + 1) :: r => if m' ≠ 0 ∧ o < w.2.1 ∧ me'.rf + 1 ≤ me.rf ∧ cats r + (me'.ml + 11) + me'.rl ≤ me.rl ∧ nr (st.take me'.na) = true then
            (match cc m' P.al.length (.ref 0 :: (st.take me'.na).reverse) (w.1 o) with
             | some (none, s') => k (pc + 3) ls r (uo w.1 o s', w.2.1, w.2.2)
             | some (some v, s') => k (pc + 3) ls (v :: r) (uo w.1 o s', w.2.1, w.2.2)
             | none => none) else none
        | _ => none
  | .invokestatic x => match asc Q.sx x with
    | none => none
    | some m' => match asc Q.ms m' with
      | none => none
      | some me' => if m' ≠ 0 ∧ me'.na ≤ st.length ∧ me'.rf + 1 ≤ me.rf ∧ cats (st.drop me'.na) + (me'.ml + 11) + me'.rl ≤ me.rl ∧ nd (st.take me'.na) = true then
          (match cl m' (st.take me'.na).reverse w with
           | some (none, w') => k (pc + 3) ls (st.drop me'.na) w'
           | some (some v, w') => k (pc + 3) ls (v :: st.drop me'.na) w'
           | none => none) else none
  | i => if isRet i = true then (match cret me st i with | some v => rt v w | none => none)
    else match pstep i pc ls st with | some (pc', ls', st') => k pc' ls' st' w | none => none
def lexec (P : Cl) (Q : Lw) (sc : Sc) : Nat → Nat → Me → Nat → Lv → List Value → Wd → Rw
  | 0, _, _, _, _, _, _ => none
  | f + 1, mi, me, pc, ls, st, w => match fetch me.cd pc with
    | none => none
    | some (i, _) => lstep P Q sc mi me (fun v w => some (v, w)) (ccall P f) (fun m' as w => match asc Q.ms m' with | some me' => (if (layA as).length ≤ me'.ml then lexec P Q sc f m' me' 0 (lay as me'.ml) [] w else none) | none => none) (lexec P Q sc f mi me) i pc ls st w
theorem lexec_cnt {P : Cl} {Q : Lw} {sc : Sc} : ∀ f mi me pc ls st w v w', mi ≠ 0 → lexec P Q sc f mi me pc ls st w = some (v, w') → w'.2 = w.2 := by
  intro f
  induction f with
  | zero => intro mi me pc ls st w v w' _ h; cases h
  | succ f ih =>
    intro mi me pc ls st w v w' h0 h
    simp only [lexec] at h
    split at h
    · cases h
    · unfold lstep at h
      split at h
      · split at h
        · split at h
          · exact ih _ _ _ _ _ _ _ _ h0 h
          · cases h
        · cases h
      · split at h
        · exact ih _ _ _ _ _ _ _ _ h0 h
        · cases h
      · split at h
        · exact ih _ _ _ _ _ _ _ _ h0 h
        · cases h
      · split at h
        · exact ih _ _ _ _ _ _ _ _ h0 h
        · cases h
      · split at h
        · rename_i q; exact absurd q.1 h0
        · cases h
      · split at h
        · cases h
        · split at h
          · split at h
            · rename_i q; exact absurd q.2.1 h0
            · cases h
          · cases h
      · split at h
        · cases h
        · split at h
          · cases h
          · split at h
            · split at h
              · split at h
                · exact (ih _ _ _ _ _ _ _ _ h0 h).trans rfl
                · exact (ih _ _ _ _ _ _ _ _ h0 h).trans rfl
                · cases h
              · cases h
            · cases h
      · split at h
        · cases h
        · split at h
          · cases h
          · rename_i me' hme'
            split at h
            · rename_i hg
              dsimp only at h
              rw [hme'] at h
              dsimp only at h
              split at h
              · rename_i w2 hc
                split at hc
                · exact (ih _ _ _ _ _ _ _ _ h0 h).trans (ih _ _ _ _ _ _ _ _ hg.1 hc)
                · cases hc
              · rename_i u w2 hc
                split at hc
                · exact (ih _ _ _ _ _ _ _ _ h0 h).trans (ih _ _ _ _ _ _ _ _ hg.1 hc)
                · cases hc
              · cases h
            · cases h
      · split at h
        · split at h
          · cases h; rfl
          · cases h
        · split at h
          · exact ih _ _ _ _ _ _ _ _ h0 h
          · cases h
def lcall (P : Cl) (Q : Lw) (sc : Sc) (f m' : Nat) (as : List Value) (w : Wd) : Rw := match asc Q.ms m' with | some me' => (if (layA as).length ≤ me'.ml then lexec P Q sc f m' me' 0 (lay as me'.ml) [] w else none) | none => none
def zOf (Q : Lw) (me : Me) : MethodName := ⟨Q.nm, me.nm, me.ds⟩
def LinkL (P : Cl) (Q : Lw) (Z : State) (a0 : Array Value) : Prop :=
  ((Cond.classLink Q.nm Q.cx P.nm).before a0 Z = true ∧ (Cond.instantiable P.nm Q.nf).before a0 Z = true) ∧
  (∀ me, asc P.ms 0 = some me → (Cond.methodLink Q.nm Q.ci (yOf P me)).before a0 Z = true ∧ (Cond.instanceMethod (yOf P me)).before a0 Z = true ∧ me.rt = 0) ∧
  (∀ x m', asc Q.vx x = some m' → ∀ me, asc P.ms m' = some me → (Cond.methodLink Q.nm x (yOf P me)).before a0 Z = true ∧ (Cond.declares (yOf P me)).before a0 Z = true ∧ (Cond.instanceMethod (yOf P me)).before a0 Z = true ∧ (Cond.selects P.nm (yOf P me) (yOf P me)).before a0 Z = true) ∧
  (∀ x m', asc Q.sx x = some m' → ∀ me, asc Q.ms m' = some me → (Cond.methodLink Q.nm x (zOf Q me)).before a0 Z = true ∧ (Cond.static (zOf Q me)).before a0 Z = true ∧ (Cond.initialized Q.nm).before a0 Z = true) ∧
  (∀ x v, asc Q.kx x = some v → match v with
    | .int z => (Cond.constant Q.nm x z).before a0 Z = true
    | .long z => (Cond.constantLong Q.nm x z).before a0 Z = true
    | _ => True) ∧
  (∀ mi me, asc Q.ms mi = some me → mi ≠ 0 → ∃ (bytes : ByteArray) (ps : List FieldType), (Cond.code (zOf Q me) bytes me.ml (retOf me.rt)).before a0 Z = true ∧
    (∀ pc i n, fetch me.cd pc = some (i, n) → decode bytes pc = .ok (i, n) ∧ (isSw i = true ∨ n = ilen i)) ∧ parseMethodDescriptor me.ds = some ⟨ps, retOf me.rt⟩ ∧ ps.length = me.na) ∧
  plainName Q.nm = true ∧ (Q.nm ≠ "java/lang/invoke/MethodHandle" ∧ Q.nm ≠ "java/lang/invoke/VarHandle")
def rho (a n0 K : Nat) : Nat → Nat
  | 0 => a
  | o + 1 => n0 + o * K
def SRep (Z : State) (h : Heap) (a n0 : Nat) (sc : Sc) : Prop :=
  match sc with
  | none => True
  | some (n, g) => a < n0 ∧ ∃ cl : Cell, Arr Z h a cl .int ∧ cl.slots.size = n ∧ ∀ i, i < n → cl.slots[i]? = some (.int (g i))
def LRep (P : Cl) (Z : State) (h : Heap) (a n0 : Nat) (sc : Sc) (w : Wd) : Prop :=
  SRep Z h a n0 sc ∧ (∀ o, o < w.2.1 → HRep P Z h (n0 + o * (P.al.length + 1)) P.al.length (w.1 o)) ∧
  (w.2.2 = true → HRep P Z h (n0 + w.2.1 * (P.al.length + 1)) 0 (w.1 w.2.1)) ∧ h.size = n0 + w.2.1 * (P.al.length + 1) + (if w.2.2 = true then 1 else 0)
def lRoom (Q : Lw) (mi : Nat) (me : Me) : Room := { frames := me.rf, cells := if mi = 0 then Q.rc else 0, slots := if mi = 0 then Q.rs else 0, locals := me.rl }
def QL (P : Cl) (Z : State) (a n0 : Nat) (sc : Sc) (v : Option Value) (w' : Wd) (u : Option Value) (h : Heap) (L : List Loc) : Prop :=
  (u = v ∧ ∀ ρ, u.toList.map (va ρ) = u.toList) ∧ Fr n0 L ∧ LRep P Z h a n0 sc w'
def lco (P : Cl) (mi : Nat) (w : Wd) : Nat := if mi = 0 then w.2.1 * (P.al.length + 1) + (if w.2.2 = true then 1 else 0) else 0
def lzo (P : Cl) (Q : Lw) (mi : Nat) (w : Wd) : Nat := if mi = 0 then w.2.1 * (Q.nf + zs P.al P.al.length) + (if w.2.2 = true then Q.nf else 0) else 0
def LW (P : Cl) (Q : Lw) (sc : Sc) (Z : State) (a n0 f mi : Nat) (me : Me) : Prop :=
  ∀ (p : Program) (l : Launch) (e : Env) (s₀ : State) (m : MethodId) (args : Array Value) (below : List Frame) (meth : Method) (cd : Code) (T : State) (locs : List Loc) (pc : Nat) (ls : Lv) (st : List Value) (w : Wd) (v : Option Value) (w' : Wd) (L : Array Slot),
    p.tables.exec = Jvm.exec → Z.Warmed39 s₀.vm → s₀.vm.findClass Q.nm = some m.cls → meth.sig.returnType = retOf me.rt → cd.maxLocals = me.ml → meth.locks = false → (mi = 0 → s₀.heap.size = n0) →
    (∀ pc i n, fetch me.cd pc = some (i, n) → decode cd.code pc = .ok (i, n) ∧ (isSw i = true ∨ n = ilen i)) →
    lexec P Q sc f mi me pc ls st w = some (v, w') →
    Stand p l e (lRoom Q mi me) s₀ m args below meth cd T locs (lco P mi w) (lzo P Q mi w) → w.2.1 * (P.al.length + 1) + (if w.2.2 = true then 1 else 0) ≤ (lRoom Q 0 me).cells → w.2.1 * (Q.nf + zs P.al P.al.length) + (if w.2.2 = true then Q.nf else 0) ≤ (lRoom Q 0 me).slots →
    LRep P Z T.heap a n0 sc w → Fr n0 locs → LR (rho a n0 (P.al.length + 1)) ls L → ls.length = me.ml →
    Don p e below s₀ (lRoom Q mi me) (QL P Z a n0 sc v w') (T.setTop (mkF m pc L (st.map (va (rho a n0 (P.al.length + 1))))))
theorem met_of_LW {P : Cl} {Q : Lw} {sc : Sc} {Z : State} {a0 : Array Value} (LL : LinkL P Q Z a0) {a n0 f mi : Nat} {me : Me} (hW : LW P Q sc Z a n0 f mi me) (hmi : mi ≠ 0) (l : Launch) {bytes : ByteArray}
    (hdec : ∀ pc i n, fetch me.cd pc = some (i, n) → decode bytes pc = .ok (i, n) ∧ (isSw i = true ∨ n = ilen i))
    {as : List Value} (hd : ∀ v ∈ as, ∀ x, v ≠ .double x) (hlen : (layA as).length ≤ me.ml) {w w' : Wd} {v : Option Value} {h : Heap} (hr : lexec P Q sc f mi me 0 (lay as me.ml) [] w = some (v, w'))
    (hc1 : w.2.1 * (P.al.length + 1) + (if w.2.2 = true then 1 else 0) ≤ Q.rc) (hc2 : w.2.1 * (Q.nf + zs P.al P.al.length) + (if w.2.2 = true then Q.nf else 0) ≤ Q.rs)
    (H : LRep P Z h a n0 sc w) :
    MetFree l (zOf Q me) (head1 [Cond.code (zOf Q me) bytes me.ml (retOf me.rt)] (lRoom Q mi me)) (fun b U => b = (as.map (va (rho a n0 (P.al.length + 1)))).toArray ∧ Z.Warmed39 U.vm ∧ U.heap = h) (fun _ _ _ _ _ => True)
      (fun _ U o U' => ∃ u L, o = .returned u ∧ QL P Z a n0 sc v w' u U'.heap L ∧ FrameEnd U o U' L (lRoom Q mi me).cells (lRoom Q mi me).slots) := by
  refine MetFree.of_bodySF (plainFor_of_name LL.2.2.2.2.2.2.1) hisR ?_
  intro p e s₀ m args below meth cd s₁ Bd hml hP hK
  obtain ⟨rfl, hZ, hh⟩ := hP
  have e0 : s₁.heap = h := by rw [← hh, Bd.state]; rfl
  have X0 : Stand p l e (lRoom Q mi me) s₀ m _ below meth cd s₁ [] 0 0 := Stand.of_body Bd
  have hown : s₀.vm.findClass Q.nm = some m.cls := findClass_of_methodNamed Bd.named
  have hk0 : lco P mi w = 0 := by simp [lco, hmi]
  have hz0 : lzo P Q mi w = 0 := by simp [lzo, hmi]
  have D := hW p l e s₀ m _ below meth cd s₁ [] 0 (lay as me.ml) [] w v w' _ Bd.exec hZ hown Bd.returns hml Bd.notSynchronized (fun q => absurd q hmi)
    (fun pc i n q => by rw [Bd.bytes]; exact hdec pc i n q) hr (by rw [hk0, hz0]; exact X0) (by simpa [lRoom] using hc1) (by simpa [lRoom] using hc2) (by rw [e0]; exact H) (Fr.nil n0) (lay_LR hd hlen) (lay_len hlen)
  obtain ⟨s₂, o, a1, a2, a3, u, L, a4, a5, a6⟩ := D
  exact ⟨s₂, o, a1, a2, a3, u, L, a4, a5, a6⟩
end Jvm.LM

namespace Jvm.LM
open Sem ClassFile Op Lib Jvm.Stand Jvm.Free Jvm.LawKit Jvm.RoadKit
theorem rng {a b K : Nat} (h : a < b) : a * K + K ≤ b * K := by
  have := Nat.mul_le_mul_right K (show a + 1 ≤ b from h)
  rw [Nat.succ_mul] at this; exact this
theorem SRep.congr {Z : State} {h h' : Heap} {a n0 : Nat} {sc : Sc} (H : SRep Z h a n0 sc) (e : ∀ x, x < n0 → h'[x]? = h[x]?) : SRep Z h' a n0 sc := by
  unfold SRep at H ⊢
  split
  · trivial
  · obtain ⟨h1, cl, ⟨q1, q2⟩, q3⟩ := H
    exact ⟨h1, cl, ⟨by rw [e a h1]; exact q1, q2⟩, q3⟩
/-- one object has moved, the others stand -/
theorem LRep.call {P : Cl} {Z : State} {h h' : Heap} {a n0 o : Nat} {sc : Sc} {w : Wd} {s' : St} (H : LRep P Z h a n0 sc w) (ho : o < w.2.1) (K : Kp h h' (n0 + o * (P.al.length + 1)) P.al.length) (hs : h'.size = h.size) (H' : HRep P Z h' (n0 + o * (P.al.length + 1)) P.al.length s') :
    LRep P Z h' a n0 sc (uo w.1 o s', w.2.1, w.2.2) := by
  obtain ⟨h1, h2, h3, h4⟩ := H
  refine ⟨h1.congr fun x hx => K x (Or.inl (by omega)), fun o' ho' => ?_, fun q => ?_, by rw [hs]; exact h4⟩
  · by_cases e : o' = o
    · subst e; simpa [uo] using H'
    · have := (h2 o' ho').congr (h' := h') fun x hx1 hx2 => K x (by
        rcases Nat.lt_or_gt_of_ne e with q | q
        · have := rng (K := P.al.length + 1) q; omega
        · have := rng (K := P.al.length + 1) q; omega)
      simpa [uo, e] using this
  · have e : w.2.1 ≠ o := by omega
    have := (h3 q).congr (h' := h') fun x hx1 hx2 => K x (by have := rng (K := P.al.length + 1) ho; omega)
    simpa [uo, e] using this
theorem ar1 {x k r y : Nat} (e : y = x + (k + 1)) (h : y ≤ r) : x + 1 + k ≤ r := by omega
theorem ar3 {x k y : Nat} (h : y = x + (k + 1)) : y + 0 = x + 1 + k := by omega
theorem ar4 {x f z y : Nat} (h : y = x + (f + z)) : y + 0 = x + f + z := by omega
theorem ar5 {x f z r y : Nat} (e : y = x + (f + z)) (h : y ≤ r) : x + f + z ≤ r := by omega
theorem ar6 {n x k y : Nat} (h : y = x + (k + 1)) : n + x + 1 + k = n + y + 0 := by omega
theorem lwalk {P : Cl} {Q : Lw} {sc : Sc} {Z : State} {a0 : Array Value} (LK : LinkC P Z a0) (LL : LinkL P Q Z a0) {a n0 : Nat} : ∀ f mi me, asc Q.ms mi = some me → LW P Q sc Z a n0 f mi me := by
  intro f
  induction f with
  | zero =>
    intro mi me hme p l e s₀ m args below meth cd T locs pc ls st w v w' L hx hZ hown hret hml hlk hs0 hdec hr
    cases hr
  | succ f ih =>
    intro mi me hme p l e s₀ m args below meth cd T locs pc ls st w v w' L hx hZ hown hret hml hlk hs0 hdec hr X hc1 hc2 I hFr hL hlen
    simp only [lexec] at hr
    split at hr
    · cases hr
    · rename_i i n hf
      obtain ⟨hd, hn⟩ := hdec pc i n hf
      have ihk := ih mi me hme
      have hsize : L.size = cd.maxLocals := by rw [hL.1, hlen, hml]
      unfold lstep at hr
      split at hr
      -- iaload
      · obtain rfl := hn.resolve_left Bool.false_ne_true
        split at hr
        · rename_i N g j r
          split at hr
          · rename_i hin
            obtain ⟨ha, cl, A, hN, hv⟩ : SRep Z T.heap a n0 (some (N, g)) := I.1
            refine Don.step (fun t q => ?_) (ihk p l e s₀ m args below meth cd T locs _ ls (.int (g (ix j)) :: r) w v w' L hx hZ hown hret hml hlk hs0 hdec hr X hc1 hc2 I hFr hL hlen)
            exact X.iaload hx A.1 (State.isArrayOf_alike hZ.alike A.2.1) A.2.2 (by rw [hN]; exact inb_not hin) (hv (ix j) (inb_ix hin)) (g := mkF m pc L (.int j :: .ref a :: r.map (va (rho a n0 (P.al.length + 1))))) rfl rfl hd t q
          · cases hr
        · cases hr
      -- arraylength
      · obtain rfl := hn.resolve_left Bool.false_ne_true
        split at hr
        · rename_i N g r
          obtain ⟨ha, cl, A, hN, hv⟩ : SRep Z T.heap a n0 (some (N, g)) := I.1
          refine Don.step (fun t q => ?_) (ihk p l e s₀ m args below meth cd T locs _ ls (.int (Int32.ofNat N) :: r) w v w' L hx hZ hown hret hml hlk hs0 hdec hr X hc1 hc2 I hFr hL hlen)
          exact X.arraylength hx A.1 (State.isArrayOf_alike hZ.alike A.2.1) (g := mkF m pc L (.ref a :: r.map (va (rho a n0 (P.al.length + 1))))) rfl rfl hd t (by rw [hN]; exact q)
        · cases hr
      -- constants
      · obtain rfl := hn.resolve_left Bool.false_ne_true
        split at hr
        · rename_i z hg
          exact Don.step (fun t q => X.ldcI hx hown (mv hZ (LL.2.2.2.2.1 _ _ hg)) (g := mkF m pc L (st.map (va (rho a n0 (P.al.length + 1))))) rfl hd q) (ihk p l e s₀ m args below meth cd T locs _ ls (.int z :: st) w v w' L hx hZ hown hret hml hlk hs0 hdec hr X hc1 hc2 I hFr hL hlen)
        · cases hr
      · obtain rfl := hn.resolve_left Bool.false_ne_true
        split at hr
        · rename_i z hg
          exact Don.step (fun t q => X.ldc2J hx hown (mv hZ (LL.2.2.2.2.1 _ _ hg)) (g := mkF m pc L (st.map (va (rho a n0 (P.al.length + 1))))) rfl hd q) (ihk p l e s₀ m args below meth cd T locs _ ls (.long z :: st) w v w' L hx hZ hown hret hml hlk hs0 hdec hr X hc1 hc2 I hFr hL hlen)
        · cases hr
      -- new
      · obtain rfl := hn.resolve_left Bool.false_ne_true
        split at hr
        · rename_i hg
          obtain ⟨rfl, rfl, hp, hg1, hg2⟩ := hg
          obtain ⟨os, cnt, pend⟩ := w
          dsimp only at hp hg1 hg2 hr
          subst hp
          have hk : lco P 0 (os, cnt, false) = cnt * (P.al.length + 1) := by simp [lco]
          have hz : lzo P Q 0 (os, cnt, false) = cnt * (Q.nf + zs P.al P.al.length) := by simp [lzo]
          have m1 : (cnt + 1) * (P.al.length + 1) = cnt * (P.al.length + 1) + (P.al.length + 1) := Nat.succ_mul ..
          have m2 : (cnt + 1) * (Q.nf + zs P.al P.al.length) = cnt * (Q.nf + zs P.al P.al.length) + (Q.nf + zs P.al P.al.length) := Nat.succ_mul ..
          rw [hk, hz] at X
          obtain ⟨T', h', X', q1, E, A, D, -, st1⟩ := newO X hx hZ hown LL.1.1 LL.1.2 LK.1.2 rfl (g := mkF m pc L (st.map (va (rho a n0 (P.al.length + 1))))) rfl hd (by simp only [lRoom, if_true]; omega) (by simp only [lRoom, if_true]; omega)
          obtain ⟨i1, i2, i3, i4⟩ := I
          have hsz : T.heap.size = n0 + cnt * (P.al.length + 1) := by simpa using i4
          have hsz' : h'.size = n0 + cnt * (P.al.length + 1) + 1 := by
            have g1 : T'.heap.size ≤ s₀.heap.size + (cnt * (P.al.length + 1) + 1) := X'.heapSize
            have g2 : T.heap.size < Array.size h' := A.lt
            rw [q1, hs0 rfl] at g1
            rw [hsz] at g2
            omega
          have same : ∀ x, x < T.heap.size → h'[x]? = T.heap[x]? := fun x hx => by
            obtain ⟨cc, hcc⟩ : ∃ cc, T.heap[x]? = some cc := ⟨T.heap[x], Array.getElem?_eq_getElem hx⟩
            rw [hcc]; exact E.2 _ _ hcc
          have I' : LRep P Z T'.heap a n0 sc (uo os cnt s0, cnt, true) := by
            rw [q1]
            refine ⟨i1.congr fun x hx => same x (by omega), fun o ho => ?_, fun _ => ?_, by simpa using hsz'⟩
            · have := (i2 o ho).congr (h' := h') fun x hx1 hx2 => same x (by have := rng (K := P.al.length + 1) (show o < cnt from ho); omega)
              simpa [uo, show o ≠ cnt from Nat.ne_of_lt ho] using this
            · simp only [uo, if_true]
              rw [hsz] at A D
              refine ⟨A, fun k fe hk => ?_, fun j tt N hj hc => absurd hc (Nat.not_lt_zero _), fun j i hj => ⟨rfl, rfl⟩, Nat.zero_le _⟩
              have q := D (laid_of LK hk) (LK.2.2.2.1 k fe hk)
              have e2 : Fval (n0 + cnt * (P.al.length + 1)) 0 s0 k fe = defaultValue (fkTy P fe.2.2.1) := by
                simp only [Fval]; split
                · rename_i e3; rw [e3]; rfl
                · rename_i e3; rw [e3]; rfl
                · rename_i e3; rw [e3]; rfl
                · rename_i e3; rw [e3]; rfl
              rw [e2]; exact q
          refine Don.step (fun t q => st1 t ?_) (ihk p l e s₀ m args below meth cd T' locs _ ls (.ref (cnt + 1) :: st) _ v w' L hx hZ hown hret hml hlk hs0 hdec hr (by simpa [lco, lzo] using X') (by simp only [lRoom, if_true]; omega) (by simp only [lRoom, if_true]; omega) I' hFr hL hlen)
          rw [hsz]; exact q
        · cases hr
      -- the constructor
      · obtain rfl := hn.resolve_left Bool.false_ne_true
        split at hr
        · cases hr
        · rename_i me' hme'
          split at hr
          · rename_i o r hst
            split at hr
            · rename_i hg
              obtain ⟨rfl, rfl, hgo, hp, hg1, hg2, hg3, hg4, hg5⟩ := hg
              obtain ⟨os, cnt, pend⟩ := w
              dsimp only at hgo hp hg1 hg2 hr hg4 hg5
              subst hp hgo
              obtain ⟨bytes, ps, hcode, hdec', hpar, hpl⟩ := LK.2.2.2.2.2.2.2.2.1 0 me' hme'
              obtain ⟨w1, w2, hrt⟩ := LL.2.1 me' hme'
              have hcode' := hcode
              rw [hrt] at hcode'
              have hini := LK.2.2.2.2.2.2.2.2.2.2.2.2 me' hme'
              have m1 : (o + 1) * (P.al.length + 1) = o * (P.al.length + 1) + (P.al.length + 1) := Nat.succ_mul ..
              have m2 : (o + 1) * (Q.nf + zs P.al P.al.length) = o * (Q.nf + zs P.al P.al.length) + (Q.nf + zs P.al P.al.length) := Nat.succ_mul ..
              simp only [ccall, hme'] at hr
              by_cases hla : (layA (Value.ref 0 :: (st.take me'.na).reverse)).length ≤ me'.ml
              · rw [if_pos hla] at hr
                cases hcl : cexec P f 0 me' 0 0 (lay (.ref 0 :: (st.take me'.na).reverse) me'.ml) [] (os o) with
                | none => rw [hcl] at hr; cases hr
                | some vs =>
                  obtain ⟨u, s1⟩ := vs
                  rw [hcl] at hr
                  cases u with
                  | some u => cases hr
                  | none =>
                    dsimp only at hr
                    obtain ⟨i1, i2, i3, i4⟩ := I
                    have hsz : T.heap.size = n0 + o * (P.al.length + 1) + 1 := by simpa using i4
                    have hM := met_of_CW LK hme' (cwalk LK (n0 := n0) (adr := n0 + o * (P.al.length + 1)) (Nat.le_add_right _ _) f 0 me' hme') l hdec' (as := .ref 0 :: (st.take me'.na).reverse) (nd_rev (ρ := id) (nr_nd hg3)) hla hcl (fun _ => rfl) (i3 rfl) (fun _ => hsz)
                    have hB := backOf (R := lRoom Q 0 me) (p := p) (e := e) (below := below) (s := s₀) (args := args) (len := 3) (W := cats r) hM hZ hcode LK.1.2 hg1 hg2
                    have hdl : me'.na < st.length := by
                      have := congrArg List.length hst
                      simp at this; omega
                    have hsp : st = st.take me'.na ++ .ref (o + 1) :: r := by rw [← hst, List.take_append_drop]
                    have hrv : ∀ ρ : Nat → Nat, (st.take me'.na).reverse.map (va ρ) = (st.take me'.na).reverse := fun ρ => by rw [List.map_reverse, nr_map hg3]
                    have hsm : st.map (va (rho a n0 (P.al.length + 1))) = ((st.take me'.na).reverse).reverse ++ .ref (n0 + o * (P.al.length + 1)) :: r.map (va (rho a n0 (P.al.length + 1))) := by
                      conv => lhs; rw [hsp]
                      rw [List.map_append, nr_map hg3]; simp [va, rho]
                    have hll : ∀ sig, parseMethodDescriptor (yOf P me').desc = some sig → ((st.take me'.na).reverse).length = sig.parameters.length := lenOf hpar (by simp [hpl]; omega)
                    have hk : lco P 0 (os, o, true) = o * (P.al.length + 1) + 1 := by simp [lco]
                    have hz : lzo P Q 0 (os, o, true) = o * (Q.nf + zs P.al P.al.length) + Q.nf := by simp [lzo]
                    rw [hk, hz] at X
                    have hpre : ∀ vm₁, s₀.WarmedH vm₁ → ((Value.ref (n0 + o * (P.al.length + 1)) :: (st.take me'.na).reverse).toArray = ((Value.ref 0 :: (st.take me'.na).reverse).map (va ((n0 + o * (P.al.length + 1)) + ·))).toArray ∧ (T.setVm vm₁).heap = T.heap ∧ o * (P.al.length + 1) + 1 + (cRoom P 0 me').cells ≤ (lRoom Q 0 me).cells ∧ o * (Q.nf + zs P.al P.al.length) + Q.nf + (cRoom P 0 me').slots ≤ (lRoom Q 0 me).slots) := fun vm₁ _ => by
                      refine ⟨by rw [List.map_cons, hrv]; rfl, rfl, ?_, ?_⟩
                      · show o * (P.al.length + 1) + 1 + P.al.length ≤ Q.rc
                        exact ar1 m1 hg4
                      · show o * (Q.nf + zs P.al P.al.length) + Q.nf + zs P.al P.al.length ≤ Q.rs
                        exact ar5 m2 hg5
                    obtain ⟨v', vm₁, ⟨U, lo, ce, sl⟩, -, X', ⟨Lc, hQ, l1, l2, l3⟩, stp⟩ := X.specialBack hx (y := yOf P me') hini hown (mv hZ w1) (mv hZ w2) (mv hZ hcode') LK.2.2.2.2.2.2.2.2.2.2.2.1 hB (g := mkF m pc L (st.map (va (rho a n0 (P.al.length + 1))))) rfl hsize (Steps.refl _) hll hsm (by show 2 * 0 + _ ≤ _; rw [cats_va]; omega) hd hpre
                    dsimp only [Pt.U, Pt.locs, Pt.cells, Pt.slots] at X' hQ l1 l2 l3 stp
                    subst l1 l2 l3
                    obtain ⟨⟨rfl, -⟩, hF', hH', hK', hS'⟩ := hQ
                    rw [if_pos rfl] at hH' hS'
                    have I' : LRep P Z U.heap a n0 sc (uo os o s1, o + 1, false) := by
                      refine ⟨i1.congr fun x hx => hK' x (Or.inl (by omega)), fun o' ho' => ?_, fun q => by simp at q, by rw [hS']; show n0 + o * (P.al.length + 1) + 1 + P.al.length = n0 + (o + 1) * (P.al.length + 1) + 0; exact ar6 m1⟩
                      by_cases e2 : o' = o
                      · subst e2; simpa [uo] using hH'
                      · have ho2 : o' < o := by have : o' < o + 1 := ho'; omega
                        have := (i2 o' ho2).congr (h' := U.heap) fun x hx1 hx2 => hK' x (by have := rng (K := P.al.length + 1) ho2; omega)
                        simpa [uo, e2] using this
                    refine Don.step (fun t q => stp.trans q) (ihk p l e s₀ m args below meth cd U (locs ++ Lc) _ ls r _ v w' L hx hZ hown hret hml hlk hs0 hdec hr ?_ (by show (o + 1) * (P.al.length + 1) + 0 ≤ Q.rc; omega) (by show (o + 1) * (Q.nf + zs P.al P.al.length) + 0 ≤ Q.rs; omega) I' (hFr.app hF') hL hlen)
                    have h1 : lco P 0 (uo os o s1, o + 1, false) = o * (P.al.length + 1) + 1 + (cRoom P 0 me').cells := by
                      show (o + 1) * (P.al.length + 1) + 0 = o * (P.al.length + 1) + 1 + P.al.length
                      exact ar3 m1
                    have h2 : lzo P Q 0 (uo os o s1, o + 1, false) = o * (Q.nf + zs P.al P.al.length) + Q.nf + (cRoom P 0 me').slots := by
                      show (o + 1) * (Q.nf + zs P.al P.al.length) + 0 = o * (Q.nf + zs P.al P.al.length) + Q.nf + zs P.al P.al.length
                      exact ar4 m2
                    rw [h1, h2]; exact X'
              · rw [if_neg hla] at hr; cases hr
            · cases hr
          · cases hr
      -- a method of the class
      · obtain rfl := hn.resolve_left Bool.false_ne_true
        split at hr
        · cases hr
        · rename_i m' hm'
          split at hr
          · cases hr
          · rename_i me' hme'
            split at hr
            · rename_i o r hst
              split at hr
              · rename_i hg
                obtain ⟨hg0, hgo, hg1, hg2, hg3⟩ := hg
                obtain ⟨bytes, ps, hcode, hdec', hpar, hpl⟩ := LK.2.2.2.2.2.2.2.2.1 m' me' hme'
                obtain ⟨w1, w2, w3, w4⟩ := LL.2.2.1 _ _ hm' me' hme'
                simp only [ccall, hme'] at hr
                by_cases hla : (layA (Value.ref 0 :: (st.take me'.na).reverse)).length ≤ me'.ml
                · rw [if_pos hla] at hr
                  cases hcl : cexec P f m' me' P.al.length 0 (lay (.ref 0 :: (st.take me'.na).reverse) me'.ml) [] (w.1 o) with
                  | none => rw [hcl] at hr; cases hr
                  | some vs =>
                    obtain ⟨u, s1⟩ := vs
                    rw [hcl] at hr
                    have hr' : lexec P Q sc f mi me (pc + 3) ls (u.toList ++ r) (uo w.1 o s1, w.2.1, w.2.2) = some (v, w') := by cases u <;> exact hr
                    have hM := met_of_CW LK hme' (cwalk LK (n0 := n0) (adr := n0 + o * (P.al.length + 1)) (Nat.le_add_right _ _) f m' me' hme') l hdec' (as := .ref 0 :: (st.take me'.na).reverse) (nd_rev (ρ := id) (nr_nd hg3)) hla hcl (fun q => absurd q hg0) (I.2.1 o hgo) (fun q => absurd q hg0)
                    have hB := backOf (R := lRoom Q mi me) (p := p) (e := e) (below := below) (s := s₀) (args := args) (len := 3) (W := cats r) hM hZ hcode LK.1.2 hg1 hg2
                    have hdl : me'.na < st.length := by
                      have := congrArg List.length hst
                      simp at this; omega
                    have hsp : st = st.take me'.na ++ .ref (o + 1) :: r := by rw [← hst, List.take_append_drop]
                    have hrv : ∀ ρ : Nat → Nat, (st.take me'.na).reverse.map (va ρ) = (st.take me'.na).reverse := fun ρ => by rw [List.map_reverse, nr_map hg3]
                    have hsm : st.map (va (rho a n0 (P.al.length + 1))) = ((st.take me'.na).reverse).reverse ++ .ref (n0 + o * (P.al.length + 1)) :: r.map (va (rho a n0 (P.al.length + 1))) := by
                      conv => lhs; rw [hsp]
                      rw [List.map_append, nr_map hg3]; simp [va, rho]
                    have hll : ∀ sig, parseMethodDescriptor (yOf P me').desc = some sig → ((st.take me'.na).reverse).length = sig.parameters.length := lenOf hpar (by simp [hpl]; omega)
                    have hz1 : (cRoom P m' me').cells = 0 := by simp [cRoom, hg0]
                    have hz2 : (cRoom P m' me').slots = 0 := by simp [cRoom, hg0]
                    have hpre : ∀ vm₁, s₀.WarmedH vm₁ → ((Value.ref (n0 + o * (P.al.length + 1)) :: (st.take me'.na).reverse).toArray = ((Value.ref 0 :: (st.take me'.na).reverse).map (va ((n0 + o * (P.al.length + 1)) + ·))).toArray ∧ (T.setVm vm₁).heap = T.heap ∧ lco P mi w + (cRoom P m' me').cells ≤ (lRoom Q mi me).cells ∧ lzo P Q mi w + (cRoom P m' me').slots ≤ (lRoom Q mi me).slots) := fun vm₁ _ => by
                      refine ⟨by rw [List.map_cons, hrv]; rfl, rfl, ?_, ?_⟩
                      · rw [hz1]; simp only [lco, lRoom] at *; split
                        · simpa using hc1
                        · exact Nat.le_refl _
                      · rw [hz2]; simp only [lzo, lRoom] at *; split
                        · simpa using hc2
                        · exact Nat.le_refl _
                    obtain ⟨cq, kq, qa, qb, qc⟩ := isOf hZ rfl (I.2.1 o hgo).1
                    obtain ⟨v', vm₁, ⟨U, lo, ce, sl⟩, -, X', ⟨Lc, hQ, l1, l2, l3⟩, stp⟩ := X.virtualBack hx (y := yOf P me') (z := yOf P me') hown (mv hZ w1) (mv hZ w2) (notFace_of_selects (args := #[]) (mv hZ w4)) (mv hZ w4) (mv hZ w3) LK.2.2.2.2.2.2.2.2.2.2.2.1 hB qa qc (g := mkF m pc L (st.map (va (rho a n0 (P.al.length + 1))))) rfl hsize (Steps.refl _) hll hsm (by show 2 * 0 + _ ≤ _; rw [cats_va]; omega) hd hpre
                    dsimp only [Pt.U, Pt.locs, Pt.cells, Pt.slots] at X' hQ l1 l2 l3 stp
                    subst l1 l2 l3
                    obtain ⟨⟨rfl, hva⟩, hF', hH', hK', hS'⟩ := hQ
                    rw [if_neg hg0] at hH' hS'
                    rw [hz1, hz2] at X'
                    refine Don.step (fun t q => stp.trans ?_) (ihk p l e s₀ m args below meth cd U (locs ++ Lc) _ ls (v'.toList ++ r) _ v w' L hx hZ hown hret hml hlk hs0 hdec hr' X' hc1 hc2 (I.call hgo hK' hS' hH') (hFr.app hF') hL hlen)
                    rw [List.map_append, hva] at q; exact q
                · rw [if_neg hla] at hr; cases hr
              · cases hr
            · cases hr
      -- a static method of the law
      · obtain rfl := hn.resolve_left Bool.false_ne_true
        split at hr
        · cases hr
        · rename_i m' hm'
          split at hr
          · cases hr
          · rename_i me' hme'
            split at hr
            · rename_i hg
              obtain ⟨hg0, hgn, hg1, hg2, hg3⟩ := hg
              obtain ⟨bytes, ps, hcode, hdec', hpar, hpl⟩ := LL.2.2.2.2.2.1 m' me' hme' hg0
              obtain ⟨w1, w2, w3⟩ := LL.2.2.2.1 _ _ hm' me' hme'
              dsimp only at hr
              rw [hme'] at hr
              dsimp only at hr
              by_cases hla : (layA (st.take me'.na).reverse).length ≤ me'.ml
              · rw [if_pos hla] at hr
                cases hcl : lexec P Q sc f m' me' 0 (lay (st.take me'.na).reverse me'.ml) [] w with
                | none => rw [hcl] at hr; cases hr
                | some vs =>
                  obtain ⟨u, w2'⟩ := vs
                  rw [hcl] at hr
                  have hr' : lexec P Q sc f mi me (pc + 3) ls (u.toList ++ st.drop me'.na) w2' = some (v, w') := by cases u <;> exact hr
                  have hndv : ∀ v ∈ (st.take me'.na).reverse, ∀ x, v ≠ .double x := fun v hv x e => nd_spec hg3 v (List.mem_reverse.mp hv) x e
                  have hM := met_of_LW LL (ih m' me' hme') hg0 l hdec' (as := (st.take me'.na).reverse) hndv hla hcl (by simpa [lRoom] using hc1) (by simpa [lRoom] using hc2) I
                  have hB := backOf (R := lRoom Q mi me) (p := p) (e := e) (below := below) (s := s₀) (args := args) (len := 3) (W := cats (st.drop me'.na)) hM hZ hcode w3 hg1 hg2
                  have hsm : st.map (va (rho a n0 (P.al.length + 1))) = (((st.take me'.na).reverse).map (va (rho a n0 (P.al.length + 1)))).reverse ++ (st.drop me'.na).map (va (rho a n0 (P.al.length + 1))) := by
                    conv => lhs; rw [← List.take_append_drop me'.na st]
                    simp
                  have hll : ∀ sig, parseMethodDescriptor (zOf Q me').desc = some sig → (((st.take me'.na).reverse).map (va (rho a n0 (P.al.length + 1)))).length = sig.parameters.length := lenOf hpar (by simp [hpl]; omega)
                  have hz1 : (lRoom Q m' me').cells = 0 := by simp [lRoom, hg0]
                  have hz2 : (lRoom Q m' me').slots = 0 := by simp [lRoom, hg0]
                  have hpre : ∀ vm₁, s₀.WarmedH vm₁ → ((((st.take me'.na).reverse).map (va (rho a n0 (P.al.length + 1)))).toArray = (((st.take me'.na).reverse).map (va (rho a n0 (P.al.length + 1)))).toArray ∧ (T.setVm vm₁).heap = T.heap ∧ lco P mi w + (lRoom Q m' me').cells ≤ (lRoom Q mi me).cells ∧ lzo P Q mi w + (lRoom Q m' me').slots ≤ (lRoom Q mi me).slots) := fun vm₁ _ => by
                    refine ⟨rfl, rfl, ?_, ?_⟩
                    · rw [hz1]; simp only [lco, lRoom] at *; split
                      · simpa using hc1
                      · exact Nat.le_refl _
                    · rw [hz2]; simp only [lzo, lRoom] at *; split
                      · simpa using hc2
                      · exact Nat.le_refl _
                  obtain ⟨v', vm₁, ⟨U, lo, ce, sl⟩, -, X', ⟨Lc, hQ, l1, l2, l3⟩, stp⟩ := Jvm.LawKit.callS X hx (y := zOf Q me') hown (mv hZ w1) (mv hZ w2) (mv hZ w3) (mv hZ hcode) LL.2.2.2.2.2.2.2 hB (g := mkF m pc L (st.map (va (rho a n0 (P.al.length + 1))))) rfl hsize hll hsm (by show 2 * 0 + _ ≤ _; rw [cats_va]; omega) hd hpre
                  dsimp only [Pt.U, Pt.locs, Pt.cells, Pt.slots] at X' hQ l1 l2 l3 stp
                  subst l1 l2 l3
                  obtain ⟨⟨rfl, hva⟩, hF', hI'⟩ := hQ
                  rw [hz1, hz2] at X'
                  have hcn := lexec_cnt _ _ _ _ _ _ _ _ _ hg0 hcl
                  have e1 : lco P mi w2' = lco P mi w := by simp only [lco, hcn]
                  have e2 : lzo P Q mi w2' = lzo P Q mi w := by simp only [lzo, hcn]
                  refine Don.step (fun t q => stp t ?_) (ihk p l e s₀ m args below meth cd U (locs ++ Lc) _ ls (v'.toList ++ st.drop me'.na) _ v w' L hx hZ hown hret hml hlk hs0 hdec hr' (by rw [e1, e2]; exact X') (by rw [hcn]; exact hc1) (by rw [hcn]; exact hc2) hI' (hFr.app hF') hL hlen)
                  rw [List.map_append, hva] at q; exact q
              · rw [if_neg hla] at hr; cases hr
            · cases hr
      -- the rest
      · split at hr
        · split at hr
          · rename_i u hu
            cases hr
            refine st_ret X hx hret hlk hu hd hn ⟨⟨rfl, cret_va hu⟩, hFr, I⟩ ?_ ?_
            · simp only [lco, lRoom] at *; split
              · simpa using hc1
              · exact Nat.le_refl _
            · simp only [lzo, lRoom] at *; split
              · simpa using hc2
              · exact Nat.le_refl _
          · cases hr
        · split at hr
          · rename_i pc' ls' st' hp
            obtain ⟨L', hL', hLs, st⟩ := pstep_sound X hx hp hd hn hL
            have hlen' : ls'.length = me.ml := by rw [← hL'.1, hLs, hL.1]; exact hlen
            exact Don.step st (ihk p l e s₀ m args below meth cd T locs _ ls' st' w v w' L' hx hZ hown hret hml hlk hs0 hdec hr X hc1 hc2 I hFr hL' hlen')
          · cases hr
/-- the law as a whole: what the machine returns, the program returns -/
theorem law_met {P : Cl} {Q : Lw} {sc : Sc} {Z : State} {a0 : Array Value} (LK : LinkC P Z a0) (LL : LinkL P Q Z a0) {a f : Nat} {me : Me} (hme : asc Q.ms 0 = some me) (l : Launch) {bytes : ByteArray} {ws : List Cond}
    (hdec : ∀ pc i n, fetch me.cd pc = some (i, n) → decode bytes pc = .ok (i, n) ∧ (isSw i = true ∨ n = ilen i))
    {as : List Value} (hnd : nd as = true) (hlen : (layA as).length ≤ me.ml) {v : Option Value} {w' : Wd} {h : Heap} (hr : lexec P Q sc f 0 me 0 (lay as me.ml) [] (fun _ => s0, 0, false) = some (v, w')) (hS : SRep Z h a h.size sc) :
    MetFree l (zOf Q me) (head1 (Cond.code (zOf Q me) bytes me.ml (retOf me.rt) :: ws) (lRoom Q 0 me)) (fun b U => b = (as.map (va (rho a h.size (P.al.length + 1)))).toArray ∧ Z.Warmed39 U.vm ∧ U.heap = h) (fun _ _ _ _ _ => True)
      (fun _ U o U' => ∃ u L, o = .returned u ∧ (u = v ∧ Fr h.size L) ∧ FrameEnd U o U' L Q.rc Q.rs) := by
  refine MetFree.of_bodySF (plainFor_of_name LL.2.2.2.2.2.2.1) hisR ?_
  intro p e s₀ m args below meth cd s₁ Bd hml hP hK
  obtain ⟨rfl, hZ, hh⟩ := hP
  have e0 : s₁.heap = h := by rw [← hh, Bd.state]; rfl
  have X0 : Stand p l e (lRoom Q 0 me) s₀ m _ below meth cd s₁ [] 0 0 := Stand.of_body Bd
  have hown : s₀.vm.findClass Q.nm = some m.cls := findClass_of_methodNamed Bd.named
  have hk0 : lco P 0 (fun _ => s0, 0, false) = 0 := by simp [lco]
  have hz0 : lzo P Q 0 (fun _ => s0, 0, false) = 0 := by simp [lzo]
  have D := lwalk LK LL (sc := sc) (a := a) (n0 := h.size) f 0 me hme p l e s₀ m _ below meth cd s₁ [] 0 (lay as me.ml) [] (fun _ => s0, 0, false) v w' _ Bd.exec hZ hown Bd.returns hml Bd.notSynchronized (fun _ => by rw [hh])
    (fun pc i n q => by rw [Bd.bytes]; exact hdec pc i n q) hr (by rw [hk0, hz0]; exact X0) (by simp) (by simp) (by
      rw [e0]; exact ⟨hS, fun o ho => absurd ho (Nat.not_lt_zero _), fun q => by simp at q, by simp⟩) (Fr.nil _) (lay_LR (nd_spec hnd) hlen) (lay_len hlen)
  obtain ⟨s₂, o, a1, a2, a3, u, L, a4, a5, a6⟩ := D
  refine ⟨s₂, o, a1, a2, a3, u, L, a4, ⟨a5.1.1, a5.2.1⟩, ?_⟩
  simpa [lRoom] using a6
end Jvm.LM

namespace Jvm.LM
open Sem ClassFile Op Lib Jvm.Stand Jvm.Free Jvm.LawKit Jvm.RoadKit
/-! what a run of the machine comes to -/
theorem cstep_mono {α : Type} {P : Cl} {mi : Nat} {me : Me} {rt : Option Value → St → Option α} {cl cl' : Nat → Nat → List Value → St → Rs} {k k' : Nat → Nat → Lv → List Value → St → Option α} {i : Instr} {c pc : Nat} {ls : Lv} {st : List Value} {s : St} {r : α}
    (hcl : ∀ m c as s r, cl m c as s = some r → cl' m c as s = some r) (hk : ∀ c pc ls st s r, k c pc ls st s = some r → k' c pc ls st s = some r) (h : cstep P mi me rt cl k i c pc ls st s = some r) : cstep P mi me rt cl' k' i c pc ls st s = some r := by
  unfold cstep at h ⊢
  split at h
  all_goals (try dsimp only)
  · split at h
    · split at h
      · exact hk _ _ _ _ _ _ h
      · cases h
    · cases h
  · split at h
    · split at h
      · exact hk _ _ _ _ _ _ h
      · cases h
    · cases h
  · split at h
    · exact hk _ _ _ _ _ _ h
    · cases h
  · split at h
    · exact hk _ _ _ _ _ _ h
    · cases h
  · split at h
    · exact hk _ _ _ _ _ _ h
    · cases h
  · split at h
    · exact hk _ _ _ _ _ _ h
    · cases h
  · split at h
    · exact hk _ _ _ _ _ _ h
    · cases h
  · split at h
    · exact hk _ _ _ _ _ _ h
    · cases h
  · split at h
    · rename_i q; rw [if_pos q]; exact hk _ _ _ _ _ _ h
    · cases h
  · split at h
    · exact hk _ _ _ _ _ _ h
    · cases h
  · split at h
    · exact hk _ _ _ _ _ _ h
    · cases h
  · split at h
    · split at h
      · rename_i q; rw [if_pos q]; exact hk _ _ _ _ _ _ h
      · cases h
    · cases h
  · split at h
    · cases h
    · rename_i m' hm'
      split at h
      · cases h
      · rename_i me' hme'
        split at h
        · rename_i r0 hst
          split at h
          · rename_i q
            rw [if_pos q]
            split at h
            · rename_i s1 hc; rw [hcl _ _ _ _ _ hc]; exact hk _ _ _ _ _ _ h
            · rename_i v1 s1 hc; rw [hcl _ _ _ _ _ hc]; exact hk _ _ _ _ _ _ h
            · cases h
          · cases h
        · cases h
  · split at h
    · rename_i q; rw [if_pos q]; exact h
    · rename_i q; rw [if_neg q]
      split at h
      · exact hk _ _ _ _ _ _ h
      · cases h
theorem cexec_succ {P : Cl} : ∀ f mi me c pc ls st s r, cexec P f mi me c pc ls st s = some r → cexec P (f + 1) mi me c pc ls st s = some r := by
  intro f
  induction f with
  | zero => intro mi me c pc ls st s r h; cases h
  | succ f ih =>
    intro mi me c pc ls st s r h
    rw [cexec] at h ⊢
    split at h
    · cases h
    · refine cstep_mono (fun m c as s r h => ?_) (fun c pc ls st s r h => ih _ _ _ _ _ _ _ _ h) h
      split at h
      · split at h
        · rename_i q; rw [if_pos q]; exact ih _ _ _ _ _ _ _ _ h
        · cases h
      · cases h
theorem cexec_le {P : Cl} {f g mi : Nat} {me : Me} {c pc : Nat} {ls : Lv} {st : List Value} {s : St} {r : Option Value × St} (hfg : f ≤ g) (h : cexec P f mi me c pc ls st s = some r) : cexec P g mi me c pc ls st s = some r := by
  obtain ⟨d, rfl⟩ := Nat.le.dest hfg
  induction d with
  | zero => exact h
  | succ d ih => exact cexec_succ _ _ _ _ _ _ _ _ _ (ih (Nat.le_add_right _ _))
theorem ccall_le {P : Cl} {f g m' c : Nat} {as : List Value} {s : St} {r : Option Value × St} (hfg : f ≤ g) (h : ccall P f m' c as s = some r) : ccall P g m' c as s = some r := by
  unfold ccall at h ⊢
  split at h
  · split at h
    · rename_i q; rw [if_pos q]; exact cexec_le hfg h
    · cases h
  · cases h
def wpc (P : Cl) (mi : Nat) (me : Me) (c pc : Nat) (ls : Lv) (st : List Value) (s : St) (Q : Option Value → St → Prop) : Prop := ∃ f v s', cexec P f mi me c pc ls st s = some (v, s') ∧ Q v s'
def cal (P : Cl) (m' c : Nat) (as : List Value) (s : St) (Q : Option Value → St → Prop) : Prop := ∃ f v s', ccall P f m' c as s = some (v, s') ∧ Q v s'
def calI (P : Cl) (m' c : Nat) (as : List Value) (s : St) (Q : Int32 → St → Prop) : Prop := cal P m' c as s fun r s' => ∃ v, r = some (.int v) ∧ Q v s'
def calL (P : Cl) (m' c : Nat) (as : List Value) (s : St) (Q : Int64 → St → Prop) : Prop := cal P m' c as s fun r s' => ∃ v, r = some (.long v) ∧ Q v s'
def calV (P : Cl) (m' c : Nat) (as : List Value) (s : St) (Q : St → Prop) : Prop := cal P m' c as s fun r s' => r = none ∧ Q s'
theorem cstep_nat {α : Type} {P : Cl} {mi : Nat} {me : Me} {k : Nat → Nat → Lv → List Value → St → Option α} {i : Instr} {c pc : Nat} {ls : Lv} {st : List Value} {s : St} {x : α}
    (h : cstep P mi me (fun _ _ => none) (fun _ _ _ _ => none) k i c pc ls st s = some x) : ∃ c' pc' ls' st' s', k c' pc' ls' st' s' = some x ∧ ∀ (β : Type) (rt : Option Value → St → Option β) cl (k' : Nat → Nat → Lv → List Value → St → Option β), cstep P mi me rt cl k' i c pc ls st s = k' c' pc' ls' st' s' := by
  unfold cstep at h
  split at h
  · split at h
    · split at h
      · rename_i q; exact ⟨_, _, _, _, _, h, fun β rt cl k' => by simp only [cstep, q]⟩
      · cases h
    · cases h
  · split at h
    · split at h
      · rename_i q; exact ⟨_, _, _, _, _, h, fun β rt cl k' => by simp only [cstep, q]⟩
      · cases h
    · cases h
  · split at h
    · rename_i q; exact ⟨_, _, _, _, _, h, fun β rt cl k' => by simp only [cstep, q]⟩
    · cases h
  · split at h
    · rename_i q; exact ⟨_, _, _, _, _, h, fun β rt cl k' => by simp only [cstep, q]⟩
    · cases h
  · split at h
    · rename_i q; exact ⟨_, _, _, _, _, h, fun β rt cl k' => by simp only [cstep, q]⟩
    · cases h
  · split at h
    · rename_i q; exact ⟨_, _, _, _, _, h, fun β rt cl k' => by simp only [cstep, q]⟩
    · cases h
  · split at h
    · rename_i q; exact ⟨_, _, _, _, _, h, fun β rt cl k' => by simp only [cstep, q]⟩
    · cases h
  · split at h
    · rename_i q; exact ⟨_, _, _, _, _, h, fun β rt cl k' => by simp only [cstep, q]⟩
    · cases h
  · split at h
    · rename_i q; exact ⟨_, _, _, _, _, h, fun β rt cl k' => by simp only [cstep]; rw [if_pos q]⟩
    · cases h
  · split at h
    · rename_i q; exact ⟨_, _, _, _, _, h, fun β rt cl k' => by simp only [cstep, q]⟩
    · cases h
  · split at h
    · rename_i q; exact ⟨_, _, _, _, _, h, fun β rt cl k' => by simp only [cstep, q]⟩
    · cases h
  · split at h
    · split at h
      · rename_i q; exact ⟨_, _, _, _, _, h, fun β rt cl k' => by simp only [cstep]; rw [if_pos q]⟩
      · cases h
    · cases h
  · split at h
    · cases h
    · split at h
      · cases h
      · split at h
        · split at h
          · cases h
          · cases h
        · cases h
  · rename_i n1 n2 n3 n4 n5 n6 n7 n8 n9 n10 n11 n12 n13
    split at h
    · split at h
      · cases h
      · split at h <;> cases h
    · rename_i hr
      split at h
      · rename_i pc' ls' st' hp
        refine ⟨_, _, _, _, _, h, fun β rt cl k' => ?_⟩
        unfold cstep
        split <;> first | (exfalso; first | exact n1 _ rfl | exact n2 _ rfl | exact n3 rfl | exact n4 rfl | exact n5 rfl | exact n6 rfl | exact n7 rfl | exact n8 rfl | exact n9 _ rfl | exact n10 _ rfl | exact n11 _ rfl | exact n12 _ rfl | exact n13 _ rfl) | skip
        rw [if_neg hr, hp]
      · cases h
def csl (P : Cl) (mi : Nat) (me : Me) : Nat → Nat → Nat → Lv → List Value → St → Option (Nat × Nat × Lv × List Value × St)
  | 0, c, pc, ls, st, s => some (c, pc, ls, st, s)
  | n + 1, c, pc, ls, st, s => match fetch me.cd pc with
    | none => none
    | some (i, _) => cstep P mi me (fun _ _ => none) (fun _ _ _ _ => none) (csl P mi me n) i c pc ls st s
theorem wpc_one {P : Cl} {mi : Nat} {me : Me} {c pc c' pc' : Nat} {ls ls' : Lv} {st st' : List Value} {s s' : St} {Q : Option Value → St → Prop} {i : Instr} {n : Nat} (hf : fetch me.cd pc = some (i, n))
    (h : ∀ (rt : Option Value → St → Rs) cl (k : Nat → Nat → Lv → List Value → St → Rs), cstep P mi me rt cl k i c pc ls st s = k c' pc' ls' st' s') (hq : wpc P mi me c' pc' ls' st' s' Q) : wpc P mi me c pc ls st s Q := by
  obtain ⟨f, v, s2, h1, h2⟩ := hq
  refine ⟨f + 1, v, s2, ?_, h2⟩
  rw [cexec, hf]; dsimp only; rw [h]; exact h1
theorem wpc_sl {P : Cl} {mi : Nat} {me : Me} {Q : Option Value → St → Prop} : ∀ {n c pc c' pc' : Nat} {ls ls' : Lv} {st st' : List Value} {s s' : St}, csl P mi me n c pc ls st s = some (c', pc', ls', st', s') → wpc P mi me c' pc' ls' st' s' Q → wpc P mi me c pc ls st s Q := by
  intro n
  induction n with
  | zero => intro c pc c' pc' ls ls' st st' s s' h hq; cases h; exact hq
  | succ n ih =>
    intro c pc c' pc' ls ls' st st' s s' h hq
    simp only [csl] at h
    split at h
    · cases h
    · rename_i i m hf
      obtain ⟨c1, pc1, ls1, st1, s1, h1, h2⟩ := cstep_nat h
      exact wpc_one hf (fun rt cl k => h2 _ rt cl k) (ih h1 hq)
theorem wpc_ret {P : Cl} {mi : Nat} {me : Me} {c pc : Nat} {ls : Lv} {st : List Value} {s : St} {Q : Option Value → St → Prop} {i : Instr} {n : Nat} {v : Option Value} (hf : fetch me.cd pc = some (i, n)) (hr : isRet i = true) (hc : mi = 0 → c = P.al.length) (h : cret me st i = some v) (hq : Q v s) : wpc P mi me c pc ls st s Q := by
  refine ⟨1, v, s, ?_, hq⟩
  rw [cexec, hf]; dsimp only
  have hc' : ¬ (mi = 0 ∧ c ≠ P.al.length) := fun q => q.2 (hc q.1)
  cases i <;> first | (cases hr; done) | (simp only [cstep]; rw [if_pos hr, if_neg hc', h])
theorem wpc_if {P : Cl} {mi : Nat} {me : Me} {c pc a b : Nat} {ls : Lv} {r : List Value} {s : St} {Q : Option Value → St → Prop} {cd : ClassFile.Cond} {o : Int} {n : Nat} {x : Int32} (hf : fetch me.cd pc = some (.ifCond cd o, n)) (ho : 0 ≤ (pc : Int) + o) (ha : jmp pc o = a) (hb : pc + 3 = b)
    (hq : wpc P mi me c (br cd x 0 a b) ls r s Q) : wpc P mi me c pc ls (.int x :: r) s Q := by
  subst ha hb
  refine wpc_one hf (fun rt cl k => ?_) hq
  show (match pstep (.ifCond cd o) pc ls (.int x :: r) with | some (pc', ls', st') => k c pc' ls' st' s | none => none) = _
  simp only [pstep, qstep]; rw [if_pos ho]
theorem wpc_icmp {P : Cl} {mi : Nat} {me : Me} {c pc a b : Nat} {ls : Lv} {r : List Value} {s : St} {Q : Option Value → St → Prop} {cd : ClassFile.Cond} {o : Int} {n : Nat} {x y : Int32} (hf : fetch me.cd pc = some (.if_icmp cd o, n)) (ho : 0 ≤ (pc : Int) + o) (ha : jmp pc o = a) (hb : pc + 3 = b)
    (hq : wpc P mi me c (br cd x y a b) ls r s Q) : wpc P mi me c pc ls (.int y :: .int x :: r) s Q := by
  subst ha hb
  refine wpc_one hf (fun rt cl k => ?_) hq
  show (match pstep (.if_icmp cd o) pc ls (.int y :: .int x :: r) with | some (pc', ls', st') => k c pc' ls' st' s | none => none) = _
  simp only [pstep, qstep]; rw [if_pos ho]
/-- the two roads of a branch -/
theorem wpc_br {P : Cl} {mi : Nat} {me : Me} {c a b : Nat} {ls : Lv} {st : List Value} {s : St} {Q : Option Value → St → Prop} {p : Prop} [Decidable p] (h : (p → wpc P mi me c a ls st s Q) ∧ (¬ p → wpc P mi me c b ls st s Q)) : wpc P mi me c (if p then a else b) ls st s Q := by
  by_cases hp : p
  · rw [if_pos hp]; exact h.1 hp
  · rw [if_neg hp]; exact h.2 hp
theorem wpc_lda {P : Cl} {mi : Nat} {me : Me} {c pc a tt N : Nat} {ls : Lv} {r : List Value} {s : St} {Q : Option Value → St → Prop} {i : Instr} {n : Nat} {j : Int32} (hf : fetch me.cd pc = some (i, n)) (hi : (tt = 0 ∧ i = .iaload) ∨ (tt = 1 ∧ i = .baload) ∨ (tt = 2 ∧ i = .laload)) (ha : P.al[a]? = some (tt, N)) (hac : a < c)
    (hj : inb N j) (hq : wpc P mi me c (pc + 1) ls (elv tt s (a + 1) (ix j) :: r) s Q) : wpc P mi me c pc ls (.int j :: .ref (a + 1) :: r) s Q := by
  have hl : lda P tt c (.int j :: .ref (a + 1) :: r) s = some (elv tt s (a + 1) (ix j) :: r) := by
    simp only [lda, ha]; rw [if_pos ⟨trivial, hac⟩, if_pos hj]; rfl
  refine wpc_one hf (fun rt cl k => ?_) hq
  rcases hi with ⟨rfl, rfl⟩ | ⟨rfl, rfl⟩ | ⟨rfl, rfl⟩ <;> simp only [cstep, hl]
theorem wpc_sta {P : Cl} {mi : Nat} {me : Me} {c pc a tt N : Nat} {ls : Lv} {r : List Value} {s s' : St} {Q : Option Value → St → Prop} {i : Instr} {n : Nat} {j : Int32} {v : Value} (hf : fetch me.cd pc = some (i, n)) (hi : (tt = 0 ∧ i = .iastore ∧ ∃ z, v = .int z ∧ s' = sI s (a + 1) (ix j) z) ∨ (tt = 1 ∧ i = .bastore ∧ ∃ z, v = .int z ∧ s' = sI s (a + 1) (ix j) (z &&& 1)) ∨ (tt = 2 ∧ i = .lastore ∧ ∃ z, v = .long z ∧ s' = sL s (a + 1) (ix j) z)) (ha : P.al[a]? = some (tt, N)) (hac : a < c)
    (hj : inb N j) (hq : wpc P mi me c (pc + 1) ls r s' Q) : wpc P mi me c pc ls (v :: .int j :: .ref (a + 1) :: r) s Q := by
  have hl : sta P tt c (v :: .int j :: .ref (a + 1) :: r) s = some (r, s') := by
    simp only [sta, ha]; rw [if_pos ⟨trivial, hac⟩, if_pos hj]
    rcases hi with ⟨rfl, -, z, rfl, rfl⟩ | ⟨rfl, -, z, rfl, rfl⟩ | ⟨rfl, -, z, rfl, rfl⟩ <;> rfl
  refine wpc_one hf (fun rt cl k => ?_) hq
  rcases hi with ⟨rfl, rfl, -⟩ | ⟨rfl, rfl, -⟩ | ⟨rfl, rfl, -⟩ <;> simp only [cstep, hl]
theorem wpc_call {P : Cl} {mi : Nat} {me me' : Me} {c pc x m' : Nat} {ls : Lv} {st r as : List Value} {s : St} {Q : Option Value → St → Prop} {n : Nat} (hf : fetch me.cd pc = some (.invokevirtual x, n)) (hm : asc P.mx x = some m') (hme : asc P.ms m' = some me') (hst : st.drop me'.na = .ref 0 :: r) (has : (st.take me'.na).reverse = as)
    (hg : m' ≠ 0 ∧ me'.rf + 1 ≤ me.rf ∧ cats r + (me'.ml + 11) + me'.rl ≤ me.rl ∧ nd (st.take me'.na) = true)
    (hq : cal P m' c (.ref 0 :: as) s fun v s' => wpc P mi me c (pc + 3) ls (v.toList ++ r) s' Q) : wpc P mi me c pc ls st s Q := by
  subst has
  obtain ⟨f1, v, s1, h1, f2, v2, s2, h2, h3⟩ := hq
  refine ⟨max f1 f2 + 1, v2, s2, ?_, h3⟩
  have h1' := ccall_le (Nat.le_max_left f1 f2) h1
  have h2' := cexec_le (Nat.le_max_right f1 f2) h2
  rw [cexec, hf]; dsimp only
  simp only [cstep, hm, hme, hst]
  rw [if_pos hg]
  simp only [ccall, hme] at h1'
  rw [h1']
  cases v <;> exact h2'
theorem cal_of {P : Cl} {m' c : Nat} {as : List Value} {s : St} {Q : Option Value → St → Prop} {me : Me} {ls : Lv} (hme : asc P.ms m' = some me) (hl : (layA as).length ≤ me.ml) (hls : lay as me.ml = ls) (h : wpc P m' me c 0 ls [] s Q) : cal P m' c as s Q := by
  subst hls
  obtain ⟨f, v, s', h1, h2⟩ := h
  refine ⟨f, v, s', ?_, h2⟩
  simp only [ccall, hme]; rw [if_pos hl]; exact h1
theorem cal.mono {P : Cl} {m' c : Nat} {as : List Value} {s : St} {Q Q' : Option Value → St → Prop} (h : cal P m' c as s Q) (hq : ∀ v s', Q v s' → Q' v s') : cal P m' c as s Q' := by
  obtain ⟨f, v, s', h1, h2⟩ := h; exact ⟨f, v, s', h1, hq _ _ h2⟩
theorem calI.mono {P : Cl} {m' c : Nat} {as : List Value} {s : St} {Q Q' : Int32 → St → Prop} (h : calI P m' c as s Q) (hq : ∀ v s', Q v s' → Q' v s') : calI P m' c as s Q' := cal.mono h fun _ _ ⟨v, e, q⟩ => ⟨v, e, hq _ _ q⟩
theorem calL.mono {P : Cl} {m' c : Nat} {as : List Value} {s : St} {Q Q' : Int64 → St → Prop} (h : calL P m' c as s Q) (hq : ∀ v s', Q v s' → Q' v s') : calL P m' c as s Q' := cal.mono h fun _ _ ⟨v, e, q⟩ => ⟨v, e, hq _ _ q⟩
theorem calV.mono {P : Cl} {m' c : Nat} {as : List Value} {s : St} {Q Q' : St → Prop} (h : calV P m' c as s Q) (hq : ∀ s', Q s' → Q' s') : calV P m' c as s Q' := cal.mono h fun _ _ ⟨e, q⟩ => ⟨e, hq _ q⟩
theorem wpc.mono {P : Cl} {mi : Nat} {me : Me} {c pc : Nat} {ls : Lv} {st : List Value} {s : St} {Q Q' : Option Value → St → Prop} (h : wpc P mi me c pc ls st s Q) (hq : ∀ v s', Q v s' → Q' v s') : wpc P mi me c pc ls st s Q' := by
  obtain ⟨f, v, s', h1, h2⟩ := h; exact ⟨f, v, s', h1, hq _ _ h2⟩
theorem wpc_callI {P : Cl} {mi : Nat} {me me' : Me} {c pc x m' : Nat} {ls : Lv} {st r as : List Value} {s : St} {Q : Option Value → St → Prop} {n : Nat} (hf : fetch me.cd pc = some (.invokevirtual x, n)) (hm : asc P.mx x = some m') (hme : asc P.ms m' = some me') (hst : st.drop me'.na = .ref 0 :: r) (has : (st.take me'.na).reverse = as)
    (hg : m' ≠ 0 ∧ me'.rf + 1 ≤ me.rf ∧ cats r + (me'.ml + 11) + me'.rl ≤ me.rl ∧ nd (st.take me'.na) = true)
    (hq : calI P m' c (.ref 0 :: as) s fun v s' => wpc P mi me c (pc + 3) ls (.int v :: r) s' Q) : wpc P mi me c pc ls st s Q :=
  wpc_call hf hm hme hst has hg (cal.mono hq fun _ _ ⟨v, e, q⟩ => by subst e; exact q)
theorem wpc_callL {P : Cl} {mi : Nat} {me me' : Me} {c pc x m' : Nat} {ls : Lv} {st r as : List Value} {s : St} {Q : Option Value → St → Prop} {n : Nat} (hf : fetch me.cd pc = some (.invokevirtual x, n)) (hm : asc P.mx x = some m') (hme : asc P.ms m' = some me') (hst : st.drop me'.na = .ref 0 :: r) (has : (st.take me'.na).reverse = as)
    (hg : m' ≠ 0 ∧ me'.rf + 1 ≤ me.rf ∧ cats r + (me'.ml + 11) + me'.rl ≤ me.rl ∧ nd (st.take me'.na) = true)
    (hq : calL P m' c (.ref 0 :: as) s fun v s' => wpc P mi me c (pc + 3) ls (.long v :: r) s' Q) : wpc P mi me c pc ls st s Q :=
  wpc_call hf hm hme hst has hg (cal.mono hq fun _ _ ⟨v, e, q⟩ => by subst e; exact q)
theorem wpc_callV {P : Cl} {mi : Nat} {me me' : Me} {c pc x m' : Nat} {ls : Lv} {st r as : List Value} {s : St} {Q : Option Value → St → Prop} {n : Nat} (hf : fetch me.cd pc = some (.invokevirtual x, n)) (hm : asc P.mx x = some m') (hme : asc P.ms m' = some me') (hst : st.drop me'.na = .ref 0 :: r) (has : (st.take me'.na).reverse = as)
    (hg : m' ≠ 0 ∧ me'.rf + 1 ≤ me.rf ∧ cats r + (me'.ml + 11) + me'.rl ≤ me.rl ∧ nd (st.take me'.na) = true)
    (hq : calV P m' c (.ref 0 :: as) s fun s' => wpc P mi me c (pc + 3) ls r s' Q) : wpc P mi me c pc ls st s Q :=
  wpc_call hf hm hme hst has hg (cal.mono hq fun _ _ ⟨e, q⟩ => by subst e; exact q)
/-- both roads of a value -/
theorem wp_val {p : Prop} [Decidable p] {α : Sort _} {F : α → Prop} {x y : α} (h : F (if p then x else y)) : (p → F x) ∧ (¬ p → F y) := ⟨fun q => by rw [if_pos q] at h; exact h, fun q => by rw [if_neg q] at h; exact h⟩
end Jvm.LM

namespace Jvm.LM
open Sem ClassFile Op Lib Jvm.Stand Jvm.Free Jvm.LawKit Jvm.RoadKit
/-! variables that are not read any more -/
def lle (a b : Lv) : Prop := a.length = b.length ∧ ∀ (k : Nat) (v : Value), a[k]? = some (some v) → b[k]? = some (some v)
def lle' : Lv → Lv → Prop
  | [], [] => True
  | none :: a, _ :: b => lle' a b
  | some v :: a, w :: b => w = some v ∧ lle' a b
  | _, _ => False
theorem lle_of {a b : Lv} (h : lle' a b) : lle a b := by
  induction a generalizing b with
  | nil => cases b with
    | nil => exact ⟨rfl, fun k v hk => hk⟩
    | cons y b => cases h
  | cons x a ih =>
    cases b with
    | nil => cases x <;> cases h
    | cons y b =>
      cases x with
      | none =>
        obtain ⟨h1, h2⟩ := ih (b := b) h
        refine ⟨by simp [h1], fun k v hk => ?_⟩
        cases k with
        | zero => simp at hk
        | succ k => simp at hk ⊢; exact h2 k v hk
      | some x =>
        obtain ⟨e, h⟩ := h
        obtain ⟨h1, h2⟩ := ih (b := b) h
        subst e
        refine ⟨by simp [h1], fun k v hk => ?_⟩
        cases k with
        | zero => exact hk
        | succ k => simp at hk ⊢; exact h2 k v hk
theorem clr_lle {a b : Lv} (h : lle a b) (i : Nat) : (clr a i).length = (clr b i).length ∧ ∀ k v, k ≠ i → (clr a i)[k]? = some (some v) → (clr b i)[k]? = some (some v) := by
  refine ⟨by rw [clr_len, clr_len]; exact h.1, fun k v hk hv => ?_⟩
  obtain ⟨q1, q2⟩ := clr_get hv
  have q3 := h.2 _ _ q1
  cases i with
  | zero => exact q3
  | succ j =>
    simp only [clr]
    split
    · rename_i x e
      rw [List.getElem?_set]
      split
      · rename_i e2; subst e2
        rw [q3] at e; cases e
        exact absurd rfl (q2 rfl)
      · exact q3
    · rename_i x e
      rw [List.getElem?_set]
      split
      · rename_i e2; subst e2
        rw [q3] at e; cases e
        exact absurd rfl (q2 rfl)
      · exact q3
    · exact q3
theorem stl_lle {a b a' : Lv} (h : lle a b) {i : Nat} {v : Value} (hs : stl a i v = some a') : ∃ b', stl b i v = some b' ∧ lle a' b' := by
  obtain ⟨c1, c2⟩ := clr_lle h i
  have hl := h.1
  have one : ∀ w : Value, ∀ k u, ((clr a i).set i (some w))[k]? = some (some u) → ((clr b i).set i (some w))[k]? = some (some u) := fun w k u hk => by
    rw [List.getElem?_set] at hk ⊢
    split
    · rename_i e; rw [if_pos e] at hk; rw [← c1]; exact hk
    · rename_i e; rw [if_neg e] at hk; exact c2 k u (fun q => e q.symm) hk
  unfold stl at hs ⊢
  split at hs
  · rename_i x
    split at hs
    · rename_i q
      cases hs
      refine ⟨((clr b i).set i (some (.long x))).set (i + 1) none, if_pos (by rw [← hl]; exact q), by simp [c1], fun k u hk => ?_⟩
      rw [List.getElem?_set] at hk ⊢
      split
      · rename_i e; rw [if_pos e] at hk; split at hk <;> simp at hk
      · rename_i e; rw [if_neg e] at hk; exact one _ k u hk
    · cases hs
  · split at hs
    · rename_i q
      cases hs
      exact ⟨(clr b i).set i (some v), if_pos (by rw [← hl]; exact q), by simp [c1], fun k u hk => one _ k u hk⟩
    · cases hs
theorem pstep_lle {i : Instr} {pc pc' : Nat} {ls l1 ls' : Lv} {st st' : List Value} (h : pstep i pc ls st = some (pc', l1, st')) (hl : lle ls ls') : ∃ l1', pstep i pc ls' st = some (pc', l1', st') ∧ lle l1 l1' := by
  unfold pstep at h ⊢
  split at h
  all_goals (try dsimp only)
  iterate 6
    · split at h
      · rename_i e; cases h; rw [hl.2 _ _ e]; exact ⟨_, rfl, hl⟩
      · cases h
  iterate 6
    · split at h
      · split at h
        · rename_i e; cases h
          obtain ⟨b', q1, q2⟩ := stl_lle hl e
          rw [q1]; exact ⟨_, rfl, q2⟩
        · cases h
      · cases h
  · split at h
    · rename_i e0
      split at h
      · rename_i e; cases h
        obtain ⟨b', q1, q2⟩ := stl_lle hl e
        rw [hl.2 _ _ e0]; dsimp only; rw [q1]; exact ⟨_, rfl, q2⟩
      · cases h
    · cases h
  · split at h
    · cases h; exact ⟨_, rfl, hl⟩
    · cases h
theorem cstep_lle {P : Cl} {mi : Nat} {me : Me} {rt : Option Value → St → Rs} {cl : Nat → Nat → List Value → St → Rs} {k : Nat → Nat → Lv → List Value → St → Rs} {i : Instr} {c pc : Nat} {ls ls' : Lv} {st : List Value} {s : St} {r : Option Value × St} (hl : lle ls ls')
    (hk : ∀ c pc ls ls' st s, lle ls ls' → k c pc ls st s = some r → k c pc ls' st s = some r) (h : cstep P mi me rt cl k i c pc ls st s = some r) : cstep P mi me rt cl k i c pc ls' st s = some r := by
  unfold cstep at h ⊢
  split at h
  all_goals (try dsimp only)
  · split at h
    · split at h
      · exact hk _ _ _ _ _ _ hl h
      · cases h
    · cases h
  · split at h
    · split at h
      · exact hk _ _ _ _ _ _ hl h
      · cases h
    · cases h
  iterate 6
    · split at h
      · exact hk _ _ _ _ _ _ hl h
      · cases h
  · split at h
    · rename_i q; rw [if_pos q]; exact hk _ _ _ _ _ _ hl h
    · cases h
  iterate 2
    · split at h
      · exact hk _ _ _ _ _ _ hl h
      · cases h
  · split at h
    · split at h
      · rename_i q; rw [if_pos q]; exact hk _ _ _ _ _ _ hl h
      · cases h
    · cases h
  · split at h
    · cases h
    · split at h
      · cases h
      · split at h
        · split at h
          · rename_i q
            rw [if_pos q]
            split at h
            · exact hk _ _ _ _ _ _ hl h
            · exact hk _ _ _ _ _ _ hl h
            · cases h
          · cases h
        · cases h
  · split at h
    · rename_i q; rw [if_pos q]; exact h
    · rename_i q; rw [if_neg q]
      split at h
      · rename_i e
        obtain ⟨l1', q1, q2⟩ := pstep_lle e hl
        rw [q1]; exact hk _ _ _ _ _ _ q2 h
      · cases h
theorem cexec_lle {P : Cl} : ∀ f mi me c pc ls ls' st s r, lle ls ls' → cexec P f mi me c pc ls st s = some r → cexec P f mi me c pc ls' st s = some r := by
  intro f
  induction f with
  | zero => intro mi me c pc ls ls' st s r _ h; cases h
  | succ f ih =>
    intro mi me c pc ls ls' st s r hl h
    rw [cexec] at h ⊢
    split at h
    · cases h
    · exact cstep_lle hl (fun c pc ls ls' st s hl h => ih _ _ _ _ _ _ _ _ _ hl h) h
theorem wpc_lle {P : Cl} {mi : Nat} {me : Me} {c pc : Nat} {ls ls' : Lv} {st : List Value} {s : St} {Q : Option Value → St → Prop} (hl : lle' ls ls') (h : wpc P mi me c pc ls st s Q) : wpc P mi me c pc ls' st s Q := by
  obtain ⟨f, v, s', h1, h2⟩ := h; exact ⟨f, v, s', cexec_lle _ _ _ _ _ _ _ _ _ _ (lle_of hl) h1, h2⟩
end Jvm.LM

namespace Jvm.LM
open Sem ClassFile Op Lib Jvm.Stand Jvm.Free Jvm.LawKit Jvm.RoadKit
theorem lstep_mono {α : Type} {P : Cl} {Q : Lw} {sc : Sc} {mi : Nat} {me : Me} {rt : Option Value → Wd → Option α} {cc cc' : Nat → Nat → List Value → St → Rs} {cl cl' : Nat → List Value → Wd → Rw} {k k' : Nat → Lv → List Value → Wd → Option α} {i : Instr} {pc : Nat} {ls : Lv} {st : List Value} {w : Wd} {r : α}
    (hcc : ∀ m c as s r, cc m c as s = some r → cc' m c as s = some r) (hcl : ∀ m as s r, cl m as s = some r → cl' m as s = some r) (hk : ∀ pc ls st s r, k pc ls st s = some r → k' pc ls st s = some r) (h : lstep P Q sc mi me rt cc cl k i pc ls st w = some r) : lstep P Q sc mi me rt cc' cl' k' i pc ls st w = some r := by
  unfold lstep at h ⊢
  split at h
  all_goals (try dsimp only)
  · split at h
    · split at h
      · rename_i q; rw [if_pos q]; exact hk _ _ _ _ _ h
      · cases h
    · cases h
  · split at h
    · exact hk _ _ _ _ _ h
    · cases h
  · split at h
    · exact hk _ _ _ _ _ h
    · cases h
  · split at h
    · exact hk _ _ _ _ _ h
    · cases h
  · split at h
    · rename_i q; rw [if_pos q]; exact hk _ _ _ _ _ h
    · cases h
  · split at h
    · cases h
    · split at h
      · split at h
        · rename_i q
          rw [if_pos q]
          split at h
          · rename_i s1 hc; rw [hcc _ _ _ _ _ hc]; exact hk _ _ _ _ _ h
          · cases h
        · cases h
      · cases h
  · split at h
    · cases h
    · split at h
      · cases h
      · split at h
        · split at h
          · rename_i q
            rw [if_pos q]
            split at h
            · rename_i s1 hc; rw [hcc _ _ _ _ _ hc]; exact hk _ _ _ _ _ h
            · rename_i v1 s1 hc; rw [hcc _ _ _ _ _ hc]; exact hk _ _ _ _ _ h
            · cases h
          · cases h
        · cases h
  · split at h
    · cases h
    · split at h
      · cases h
      · split at h
        · rename_i q
          rw [if_pos q]
          split at h
          · rename_i s1 hc; rw [hcl _ _ _ _ hc]; exact hk _ _ _ _ _ h
          · rename_i v1 s1 hc; rw [hcl _ _ _ _ hc]; exact hk _ _ _ _ _ h
          · cases h
        · cases h
  · split at h
    · rename_i q; rw [if_pos q]; exact h
    · rename_i q; rw [if_neg q]
      split at h
      · exact hk _ _ _ _ _ h
      · cases h
theorem lexec_succ {P : Cl} {Q : Lw} {sc : Sc} : ∀ f mi me pc ls st w r, lexec P Q sc f mi me pc ls st w = some r → lexec P Q sc (f + 1) mi me pc ls st w = some r := by
  intro f
  induction f with
  | zero => intro mi me pc ls st s r h; cases h
  | succ f ih =>
    intro mi me pc ls st s r h
    rw [lexec] at h ⊢
    split at h
    · cases h
    · refine lstep_mono (fun m c as s r h => ccall_le (Nat.le_succ _) h) (fun m as s r h => ?_) (fun pc ls st s r h => ih _ _ _ _ _ _ _ h) h
      split at h
      · split at h
        · rename_i q; rw [if_pos q]; exact ih _ _ _ _ _ _ _ h
        · cases h
      · cases h
theorem lexec_le {P : Cl} {Q : Lw} {sc : Sc} {f g mi : Nat} {me : Me} {pc : Nat} {ls : Lv} {st : List Value} {w : Wd} {r : Option Value × Wd} (hfg : f ≤ g) (h : lexec P Q sc f mi me pc ls st w = some r) : lexec P Q sc g mi me pc ls st w = some r := by
  obtain ⟨d, rfl⟩ := Nat.le.dest hfg
  induction d with
  | zero => exact h
  | succ d ih => exact lexec_succ _ _ _ _ _ _ _ _ (ih (Nat.le_add_right _ _))
theorem lcall_le {P : Cl} {Q : Lw} {sc : Sc} {f g m' : Nat} {as : List Value} {w : Wd} {r : Option Value × Wd} (hfg : f ≤ g) (h : lcall P Q sc f m' as w = some r) : lcall P Q sc g m' as w = some r := by
  unfold lcall at h ⊢
  split at h
  · split at h
    · rename_i q; rw [if_pos q]; exact lexec_le hfg h
    · cases h
  · cases h
def wpl (P : Cl) (Q : Lw) (sc : Sc) (mi : Nat) (me : Me) (pc : Nat) (ls : Lv) (st : List Value) (w : Wd) (R : Option Value → Wd → Prop) : Prop := ∃ f v w', lexec P Q sc f mi me pc ls st w = some (v, w') ∧ R v w'
def lal (P : Cl) (Q : Lw) (sc : Sc) (m' : Nat) (as : List Value) (w : Wd) (R : Option Value → Wd → Prop) : Prop := ∃ f v w', lcall P Q sc f m' as w = some (v, w') ∧ R v w'
def lalI (P : Cl) (Q : Lw) (sc : Sc) (m' : Nat) (as : List Value) (w : Wd) (R : Int32 → Wd → Prop) : Prop := lal P Q sc m' as w fun r w' => ∃ v, r = some (.int v) ∧ R v w'
def lalL (P : Cl) (Q : Lw) (sc : Sc) (m' : Nat) (as : List Value) (w : Wd) (R : Int64 → Wd → Prop) : Prop := lal P Q sc m' as w fun r w' => ∃ v, r = some (.long v) ∧ R v w'
def lalV (P : Cl) (Q : Lw) (sc : Sc) (m' : Nat) (as : List Value) (w : Wd) (R : Wd → Prop) : Prop := lal P Q sc m' as w fun r w' => r = none ∧ R w'
theorem lal.mono {P : Cl} {Q : Lw} {sc : Sc} {m' : Nat} {as : List Value} {w : Wd} {R R' : Option Value → Wd → Prop} (h : lal P Q sc m' as w R) (hq : ∀ v s', R v s' → R' v s') : lal P Q sc m' as w R' := by
  obtain ⟨f, v, s', h1, h2⟩ := h; exact ⟨f, v, s', h1, hq _ _ h2⟩
theorem lalI.mono {P : Cl} {Q : Lw} {sc : Sc} {m' : Nat} {as : List Value} {w : Wd} {R R' : Int32 → Wd → Prop} (h : lalI P Q sc m' as w R) (hq : ∀ v s', R v s' → R' v s') : lalI P Q sc m' as w R' := lal.mono h fun _ _ ⟨v, e, q⟩ => ⟨v, e, hq _ _ q⟩
theorem lalL.mono {P : Cl} {Q : Lw} {sc : Sc} {m' : Nat} {as : List Value} {w : Wd} {R R' : Int64 → Wd → Prop} (h : lalL P Q sc m' as w R) (hq : ∀ v s', R v s' → R' v s') : lalL P Q sc m' as w R' := lal.mono h fun _ _ ⟨v, e, q⟩ => ⟨v, e, hq _ _ q⟩
theorem lalV.mono {P : Cl} {Q : Lw} {sc : Sc} {m' : Nat} {as : List Value} {w : Wd} {R R' : Wd → Prop} (h : lalV P Q sc m' as w R) (hq : ∀ s', R s' → R' s') : lalV P Q sc m' as w R' := lal.mono h fun _ _ ⟨e, q⟩ => ⟨e, hq _ q⟩
theorem wpl.mono {P : Cl} {Q : Lw} {sc : Sc} {mi : Nat} {me : Me} {pc : Nat} {ls : Lv} {st : List Value} {w : Wd} {R R' : Option Value → Wd → Prop} (h : wpl P Q sc mi me pc ls st w R) (hq : ∀ v s', R v s' → R' v s') : wpl P Q sc mi me pc ls st w R' := by
  obtain ⟨f, v, s', h1, h2⟩ := h; exact ⟨f, v, s', h1, hq _ _ h2⟩
theorem wpl_one {P : Cl} {Q : Lw} {sc : Sc} {mi : Nat} {me : Me} {pc pc' : Nat} {ls ls' : Lv} {st st' : List Value} {w w' : Wd} {R : Option Value → Wd → Prop} {i : Instr} {n : Nat} (hf : fetch me.cd pc = some (i, n))
    (h : ∀ (rt : Option Value → Wd → Rw) cc cl (k : Nat → Lv → List Value → Wd → Rw), lstep P Q sc mi me rt cc cl k i pc ls st w = k pc' ls' st' w') (hq : wpl P Q sc mi me pc' ls' st' w' R) : wpl P Q sc mi me pc ls st w R := by
  obtain ⟨f, v, s2, h1, h2⟩ := hq
  refine ⟨f + 1, v, s2, ?_, h2⟩
  rw [lexec, hf]; dsimp only; rw [h]; exact h1
/-- plain steps: nothing of the heap, no call -/
def isPl : Instr → Bool
  | .iaload => false | .arraylength => false | .ldc _ => false | .ldc2_w _ => false | .new _ => false | .invokespecial _ => false | .invokevirtual _ => false | .invokestatic _ => false
  | .ireturn => false | .lreturn => false | .return_ => false
  | _ => true
theorem lstep_pl {α : Type} {P : Cl} {Q : Lw} {sc : Sc} {mi : Nat} {me : Me} {rt : Option Value → Wd → Option α} {cc : Nat → Nat → List Value → St → Rs} {cl : Nat → List Value → Wd → Rw} {k : Nat → Lv → List Value → Wd → Option α} {i : Instr} {pc : Nat} {ls : Lv} {st : List Value} {w : Wd} (hi : isPl i = true) :
    lstep P Q sc mi me rt cc cl k i pc ls st w = match pstep i pc ls st with | some (pc', ls', st') => k pc' ls' st' w | none => none := by
  cases i <;> first | (cases hi; done) | rfl
def psl (kx : List (Nat × Value)) (cd : Cd) : Nat → Nat → Lv → List Value → Option (Nat × Lv × List Value)
  | 0, pc, ls, st => some (pc, ls, st)
  | n + 1, pc, ls, st => match fetch cd pc with
    | none => none
    | some (i, _) => match i with
      | .ldc x => (match asc kx x with | some (.int z) => psl kx cd n (pc + 2) ls (.int z :: st) | _ => none)
      | .ldc2_w x => (match asc kx x with | some (.long z) => psl kx cd n (pc + 3) ls (.long z :: st) | _ => none)
      | i => if isPl i = true then (match pstep i pc ls st with | some (pc', ls', st') => psl kx cd n pc' ls' st' | none => none) else none
theorem wpl_sl {P : Cl} {Q : Lw} {sc : Sc} {mi : Nat} {me : Me} {w : Wd} {R : Option Value → Wd → Prop} : ∀ {n pc pc' : Nat} {ls ls' : Lv} {st st' : List Value}, psl Q.kx me.cd n pc ls st = some (pc', ls', st') → wpl P Q sc mi me pc' ls' st' w R → wpl P Q sc mi me pc ls st w R := by
  intro n
  induction n with
  | zero => intro pc pc' ls ls' st st' h hq; cases h; exact hq
  | succ n ih =>
    intro pc pc' ls ls' st st' h hq
    simp only [psl] at h
    split at h
    · cases h
    · rename_i i m hf
      split at h
      · split at h
        · rename_i z e
          exact wpl_one hf (fun rt cc cl k => by simp only [lstep, e]) (ih h hq)
        · cases h
      · split at h
        · rename_i z e
          exact wpl_one hf (fun rt cc cl k => by simp only [lstep, e]) (ih h hq)
        · cases h
      · split at h
        · rename_i hi
          split at h
          · rename_i pc1 ls1 st1 e
            exact wpl_one hf (fun rt cc cl k => by rw [lstep_pl hi, e]) (ih h hq)
          · cases h
        · cases h
theorem wpl_ret {P : Cl} {Q : Lw} {sc : Sc} {mi : Nat} {me : Me} {pc : Nat} {ls : Lv} {st : List Value} {w : Wd} {R : Option Value → Wd → Prop} {i : Instr} {n : Nat} {v : Option Value} (hf : fetch me.cd pc = some (i, n)) (hr : isRet i = true) (h : cret me st i = some v) (hq : R v w) : wpl P Q sc mi me pc ls st w R := by
  refine ⟨1, v, w, ?_, hq⟩
  rw [lexec, hf]; dsimp only
  cases i <;> first | (cases hr; done) | (simp only [lstep]; rw [if_pos hr, h])
theorem wpl_if {P : Cl} {Q : Lw} {sc : Sc} {mi : Nat} {me : Me} {pc a b : Nat} {ls : Lv} {r : List Value} {w : Wd} {R : Option Value → Wd → Prop} {cd : ClassFile.Cond} {o : Int} {n : Nat} {x : Int32} (hf : fetch me.cd pc = some (.ifCond cd o, n)) (ho : 0 ≤ (pc : Int) + o) (ha : jmp pc o = a) (hb : pc + 3 = b)
    (hq : wpl P Q sc mi me (br cd x 0 a b) ls r w R) : wpl P Q sc mi me pc ls (.int x :: r) w R := by
  subst ha hb
  refine wpl_one hf (fun rt cc cl k => ?_) hq
  rw [lstep_pl rfl]
  simp only [pstep, qstep]; rw [if_pos ho]
theorem wpl_icmp {P : Cl} {Q : Lw} {sc : Sc} {mi : Nat} {me : Me} {pc a b : Nat} {ls : Lv} {r : List Value} {w : Wd} {R : Option Value → Wd → Prop} {cd : ClassFile.Cond} {o : Int} {n : Nat} {x y : Int32} (hf : fetch me.cd pc = some (.if_icmp cd o, n)) (ho : 0 ≤ (pc : Int) + o) (ha : jmp pc o = a) (hb : pc + 3 = b)
    (hq : wpl P Q sc mi me (br cd x y a b) ls r w R) : wpl P Q sc mi me pc ls (.int y :: .int x :: r) w R := by
  subst ha hb
  refine wpl_one hf (fun rt cc cl k => ?_) hq
  rw [lstep_pl rfl]
  simp only [pstep, qstep]; rw [if_pos ho]
theorem wpl_br {P : Cl} {Q : Lw} {sc : Sc} {mi : Nat} {me : Me} {a b : Nat} {ls : Lv} {st : List Value} {w : Wd} {R : Option Value → Wd → Prop} {p : Prop} [Decidable p] (h : (p → wpl P Q sc mi me a ls st w R) ∧ (¬ p → wpl P Q sc mi me b ls st w R)) : wpl P Q sc mi me (if p then a else b) ls st w R := by
  by_cases hp : p
  · rw [if_pos hp]; exact h.1 hp
  · rw [if_neg hp]; exact h.2 hp
theorem wpl_lda {P : Cl} {Q : Lw} {N : Nat} {g : Nat → Int32} {mi : Nat} {me : Me} {pc : Nat} {ls : Lv} {r : List Value} {w : Wd} {R : Option Value → Wd → Prop} {n : Nat} {j : Int32} (hf : fetch me.cd pc = some (.iaload, n)) (hj : inb N j) (hq : wpl P Q (some (N, g)) mi me (pc + 1) ls (.int (g (ix j)) :: r) w R) : wpl P Q (some (N, g)) mi me pc ls (.int j :: .ref 0 :: r) w R := by
  refine wpl_one hf (fun rt cc cl k => ?_) hq
  simp only [lstep]; rw [if_pos hj]
theorem wpl_len {P : Cl} {Q : Lw} {N : Nat} {g : Nat → Int32} {mi : Nat} {me : Me} {pc : Nat} {ls : Lv} {r : List Value} {w : Wd} {R : Option Value → Wd → Prop} {n : Nat} (hf : fetch me.cd pc = some (.arraylength, n)) (hq : wpl P Q (some (N, g)) mi me (pc + 1) ls (.int (Int32.ofNat N) :: r) w R) : wpl P Q (some (N, g)) mi me pc ls (.ref 0 :: r) w R := by
  refine wpl_one hf (fun rt cc cl k => ?_) hq
  simp only [lstep]
theorem wpl_new {P : Cl} {Q : Lw} {sc : Sc} {me : Me} {pc cnt : Nat} {ls : Lv} {st : List Value} {os : Nat → St} {R : Option Value → Wd → Prop} {n x : Nat} (hf : fetch me.cd pc = some (.new x, n)) (hx : x = Q.cx) (h1 : (cnt + 1) * (P.al.length + 1) ≤ Q.rc) (h2 : (cnt + 1) * (Q.nf + zs P.al P.al.length) ≤ Q.rs)
    (hq : wpl P Q sc 0 me (pc + 3) ls (.ref (cnt + 1) :: st) (uo os cnt s0, cnt, true) R) : wpl P Q sc 0 me pc ls st (os, cnt, false) R := by
  refine wpl_one hf (fun rt cc cl k => ?_) hq
  simp only [lstep]; rw [if_pos ⟨trivial, hx, trivial, h1, h2⟩]
theorem wpl_ctor {P : Cl} {Q : Lw} {sc : Sc} {me me' : Me} {pc cnt : Nat} {ls : Lv} {st r as : List Value} {os : Nat → St} {R : Option Value → Wd → Prop} {n x : Nat} (hf : fetch me.cd pc = some (.invokespecial x, n)) (hx : x = Q.ci) (hme : asc P.ms 0 = some me') (hst : st.drop me'.na = .ref (cnt + 1) :: r) (has : (st.take me'.na).reverse = as)
    (hg : me'.rf + 1 ≤ me.rf ∧ cats r + (me'.ml + 11) + me'.rl ≤ me.rl ∧ nr (st.take me'.na) = true ∧ (cnt + 1) * (P.al.length + 1) ≤ Q.rc ∧ (cnt + 1) * (Q.nf + zs P.al P.al.length) ≤ Q.rs)
    (hq : calV P 0 0 (.ref 0 :: as) (os cnt) fun s' => wpl P Q sc 0 me (pc + 3) ls r (uo os cnt s', cnt + 1, false) R) : wpl P Q sc 0 me pc ls st (os, cnt, true) R := by
  subst has
  obtain ⟨f1, v, s1, h1, rfl, f2, v2, s2, h2, h3⟩ := hq
  refine ⟨max f1 f2 + 1, v2, s2, ?_, h3⟩
  have h1' := ccall_le (Nat.le_max_left f1 f2) h1
  have h2' := lexec_le (Nat.le_max_right f1 f2) h2
  rw [lexec, hf]; dsimp only
  simp only [lstep, hme, hst]
  rw [if_pos ⟨hx, trivial, trivial, trivial, hg⟩, h1']
  exact h2'
theorem wpl_call {P : Cl} {Q : Lw} {sc : Sc} {mi : Nat} {me me' : Me} {pc x m' o : Nat} {ls : Lv} {st r as : List Value} {w : Wd} {R : Option Value → Wd → Prop} {n : Nat} (hf : fetch me.cd pc = some (.invokevirtual x, n)) (hm : asc Q.vx x = some m') (hme : asc P.ms m' = some me') (hst : st.drop me'.na = .ref (o + 1) :: r) (has : (st.take me'.na).reverse = as)
    (hg : m' ≠ 0 ∧ o < w.2.1 ∧ me'.rf + 1 ≤ me.rf ∧ cats r + (me'.ml + 11) + me'.rl ≤ me.rl ∧ nr (st.take me'.na) = true)
    (hq : cal P m' P.al.length (.ref 0 :: as) (w.1 o) fun v s' => wpl P Q sc mi me (pc + 3) ls (v.toList ++ r) (uo w.1 o s', w.2.1, w.2.2) R) : wpl P Q sc mi me pc ls st w R := by
  subst has
  obtain ⟨f1, v, s1, h1, f2, v2, s2, h2, h3⟩ := hq
  refine ⟨max f1 f2 + 1, v2, s2, ?_, h3⟩
  have h1' := ccall_le (Nat.le_max_left f1 f2) h1
  have h2' := lexec_le (Nat.le_max_right f1 f2) h2
  rw [lexec, hf]; dsimp only
  simp only [lstep, hm, hme, hst]
  rw [if_pos hg, h1']
  cases v <;> exact h2'
theorem wpl_stat {P : Cl} {Q : Lw} {sc : Sc} {mi : Nat} {me me' : Me} {pc x m' : Nat} {ls : Lv} {st r as : List Value} {w : Wd} {R : Option Value → Wd → Prop} {n : Nat} (hf : fetch me.cd pc = some (.invokestatic x, n)) (hm : asc Q.sx x = some m') (hme : asc Q.ms m' = some me') (hst : st.drop me'.na = r) (has : (st.take me'.na).reverse = as)
    (hg : m' ≠ 0 ∧ me'.na ≤ st.length ∧ me'.rf + 1 ≤ me.rf ∧ cats r + (me'.ml + 11) + me'.rl ≤ me.rl ∧ nd (st.take me'.na) = true)
    (hq : lal P Q sc m' as w fun v w' => wpl P Q sc mi me (pc + 3) ls (v.toList ++ r) w' R) : wpl P Q sc mi me pc ls st w R := by
  subst has hst
  obtain ⟨f1, v, s1, h1, f2, v2, s2, h2, h3⟩ := hq
  refine ⟨max f1 f2 + 1, v2, s2, ?_, h3⟩
  have h1' := lcall_le (Nat.le_max_left f1 f2) h1
  have h2' := lexec_le (Nat.le_max_right f1 f2) h2
  rw [lexec, hf]; dsimp only
  simp only [lstep, hm, hme]
  rw [if_pos hg]
  simp only [lcall, hme] at h1'
  rw [h1']
  cases v <;> exact h2'
theorem lal_of {P : Cl} {Q : Lw} {sc : Sc} {m' : Nat} {as : List Value} {w : Wd} {R : Option Value → Wd → Prop} {me : Me} {ls : Lv} (hme : asc Q.ms m' = some me) (hl : (layA as).length ≤ me.ml) (hls : lay as me.ml = ls) (h : wpl P Q sc m' me 0 ls [] w R) : lal P Q sc m' as w R := by
  subst hls
  obtain ⟨f, v, s', h1, h2⟩ := h
  refine ⟨f, v, s', ?_, h2⟩
  simp only [lcall, hme]; rw [if_pos hl]; exact h1
theorem lstep_lle {P : Cl} {Q : Lw} {sc : Sc} {mi : Nat} {me : Me} {rt : Option Value → Wd → Rw} {cc : Nat → Nat → List Value → St → Rs} {cl : Nat → List Value → Wd → Rw} {k : Nat → Lv → List Value → Wd → Rw} {i : Instr} {pc : Nat} {ls ls' : Lv} {st : List Value} {w : Wd} {r : Option Value × Wd} (hl : lle ls ls')
    (hk : ∀ pc ls ls' st s, lle ls ls' → k pc ls st s = some r → k pc ls' st s = some r) (h : lstep P Q sc mi me rt cc cl k i pc ls st w = some r) : lstep P Q sc mi me rt cc cl k i pc ls' st w = some r := by
  unfold lstep at h ⊢
  split at h
  all_goals (try dsimp only)
  · split at h
    · split at h
      · rename_i q; rw [if_pos q]; exact hk _ _ _ _ _ hl h
      · cases h
    · cases h
  iterate 3
    · split at h
      · exact hk _ _ _ _ _ hl h
      · cases h
  · split at h
    · rename_i q; rw [if_pos q]; exact hk _ _ _ _ _ hl h
    · cases h
  · split at h
    · cases h
    · split at h
      · split at h
        · rename_i q
          rw [if_pos q]
          split at h
          · exact hk _ _ _ _ _ hl h
          · cases h
        · cases h
      · cases h
  · split at h
    · cases h
    · split at h
      · cases h
      · split at h
        · split at h
          · rename_i q
            rw [if_pos q]
            split at h
            · exact hk _ _ _ _ _ hl h
            · exact hk _ _ _ _ _ hl h
            · cases h
          · cases h
        · cases h
  · split at h
    · cases h
    · split at h
      · cases h
      · split at h
        · rename_i q
          rw [if_pos q]
          split at h
          · exact hk _ _ _ _ _ hl h
          · exact hk _ _ _ _ _ hl h
          · cases h
        · cases h
  · split at h
    · rename_i q; rw [if_pos q]; exact h
    · rename_i q; rw [if_neg q]
      split at h
      · rename_i e
        obtain ⟨l1', q1, q2⟩ := pstep_lle e hl
        rw [q1]; exact hk _ _ _ _ _ q2 h
      · cases h
theorem lexec_lle {P : Cl} {Q : Lw} {sc : Sc} : ∀ f mi me pc ls ls' st w r, lle ls ls' → lexec P Q sc f mi me pc ls st w = some r → lexec P Q sc f mi me pc ls' st w = some r := by
  intro f
  induction f with
  | zero => intro mi me pc ls ls' st w r _ h; cases h
  | succ f ih =>
    intro mi me pc ls ls' st w r hl h
    rw [lexec] at h ⊢
    split at h
    · cases h
    · exact lstep_lle hl (fun pc ls ls' st s hl h => ih _ _ _ _ _ _ _ _ hl h) h
theorem wpl_lle {P : Cl} {Q : Lw} {sc : Sc} {mi : Nat} {me : Me} {pc : Nat} {ls ls' : Lv} {st : List Value} {w : Wd} {R : Option Value → Wd → Prop} (hl : lle' ls ls') (h : wpl P Q sc mi me pc ls st w R) : wpl P Q sc mi me pc ls' st w R := by
  obtain ⟨f, v, s', h1, h2⟩ := h; exact ⟨f, v, s', lexec_lle _ _ _ _ _ _ _ _ _ (lle_of hl) h1, h2⟩
/-! worlds of no, one and two objects -/
def W0 : Wd := (fun _ => s0, 0, false)
def W0p : Wd := (uo (fun _ => s0) 0 s0, 0, true)
def W1 (s : St) : Wd := (uo (fun _ => s0) 0 s, 1, false)
def W1p (s : St) : Wd := (uo (uo (fun _ => s0) 0 s) 1 s0, 1, true)
def W2 (s t : St) : Wd := (uo (uo (fun _ => s0) 0 s) 1 t, 2, false)
theorem uo_uo (f : Nat → St) (o : Nat) (s t : St) : uo (uo f o s) o t = uo f o t := by
  funext i; simp only [uo]; split <;> rfl
theorem uo_swap (f : Nat → St) {o o' : Nat} (h : o ≠ o') (s t : St) : uo (uo f o s) o' t = uo (uo f o' t) o s := by
  funext i; simp only [uo]
  by_cases a : i = o
  · subst a; simp [h]
  · by_cases b : i = o'
    · subst b; simp [Ne.symm h]
    · simp [a, b]
section Worlds
variable {P : Cl} {Q : Lw} {sc : Sc} {mi : Nat} {me me' : Me} {pc x m' : Nat} {ls : Lv} {st r as : List Value} {R : Option Value → Wd → Prop} {n : Nat} {s t : St}
theorem wpl_new0 (hf : fetch me.cd pc = some (.new x, n)) (hx : x = Q.cx) (h1 : 1 * (P.al.length + 1) ≤ Q.rc) (h2 : 1 * (Q.nf + zs P.al P.al.length) ≤ Q.rs) (hq : wpl P Q sc 0 me (pc + 3) ls (.ref 1 :: st) W0p R) : wpl P Q sc 0 me pc ls st W0 R := wpl_new (cnt := 0) hf hx h1 h2 hq
theorem wpl_new1 (hf : fetch me.cd pc = some (.new x, n)) (hx : x = Q.cx) (h1 : 2 * (P.al.length + 1) ≤ Q.rc) (h2 : 2 * (Q.nf + zs P.al P.al.length) ≤ Q.rs) (hq : wpl P Q sc 0 me (pc + 3) ls (.ref 2 :: st) (W1p s) R) : wpl P Q sc 0 me pc ls st (W1 s) R := wpl_new (cnt := 1) hf hx h1 h2 hq
theorem wpl_ctor0 (hf : fetch me.cd pc = some (.invokespecial x, n)) (hx : x = Q.ci) (hme : asc P.ms 0 = some me') (hst : st.drop me'.na = .ref 1 :: r) (has : (st.take me'.na).reverse = as)
    (hg : me'.rf + 1 ≤ me.rf ∧ cats r + (me'.ml + 11) + me'.rl ≤ me.rl ∧ nr (st.take me'.na) = true ∧ 1 * (P.al.length + 1) ≤ Q.rc ∧ 1 * (Q.nf + zs P.al P.al.length) ≤ Q.rs)
    (hq : calV P 0 0 (.ref 0 :: as) s0 fun s' => wpl P Q sc 0 me (pc + 3) ls r (W1 s') R) : wpl P Q sc 0 me pc ls st W0p R := by
  refine wpl_ctor (cnt := 0) hf hx hme hst has hg ?_
  refine calV.mono (show calV P 0 0 (.ref 0 :: as) (uo (fun _ => s0) 0 s0 0) _ from hq) fun s' h => ?_
  rw [uo_uo]; exact h
theorem wpl_ctor1 (hf : fetch me.cd pc = some (.invokespecial x, n)) (hx : x = Q.ci) (hme : asc P.ms 0 = some me') (hst : st.drop me'.na = .ref 2 :: r) (has : (st.take me'.na).reverse = as)
    (hg : me'.rf + 1 ≤ me.rf ∧ cats r + (me'.ml + 11) + me'.rl ≤ me.rl ∧ nr (st.take me'.na) = true ∧ 2 * (P.al.length + 1) ≤ Q.rc ∧ 2 * (Q.nf + zs P.al P.al.length) ≤ Q.rs)
    (hq : calV P 0 0 (.ref 0 :: as) s0 fun s' => wpl P Q sc 0 me (pc + 3) ls r (W2 s s') R) : wpl P Q sc 0 me pc ls st (W1p s) R := by
  refine wpl_ctor (cnt := 1) hf hx hme hst has hg ?_
  refine calV.mono (show calV P 0 0 (.ref 0 :: as) (uo (uo (fun _ => s0) 0 s) 1 s0 1) _ from hq) fun s' h => ?_
  rw [uo_uo]; exact h
theorem wpl_v1 (hf : fetch me.cd pc = some (.invokevirtual x, n)) (hm : asc Q.vx x = some m') (hme : asc P.ms m' = some me') (hst : st.drop me'.na = .ref 1 :: r) (has : (st.take me'.na).reverse = as)
    (hg : m' ≠ 0 ∧ me'.rf + 1 ≤ me.rf ∧ cats r + (me'.ml + 11) + me'.rl ≤ me.rl ∧ nr (st.take me'.na) = true)
    (hq : cal P m' P.al.length (.ref 0 :: as) s fun v s' => wpl P Q sc mi me (pc + 3) ls (v.toList ++ r) (W1 s') R) : wpl P Q sc mi me pc ls st (W1 s) R := by
  refine wpl_call (o := 0) hf hm hme hst has ⟨hg.1, by show 0 < 1; decide, hg.2⟩ ?_
  refine cal.mono (show cal P m' P.al.length (.ref 0 :: as) ((W1 s).1 0) _ from hq) fun v s' h => ?_
  show wpl P Q sc mi me (pc + 3) ls (v.toList ++ r) (uo (uo (fun _ => s0) 0 s) 0 s', 1, false) R
  rw [uo_uo]; exact h
theorem wpl_v2a (hf : fetch me.cd pc = some (.invokevirtual x, n)) (hm : asc Q.vx x = some m') (hme : asc P.ms m' = some me') (hst : st.drop me'.na = .ref 1 :: r) (has : (st.take me'.na).reverse = as)
    (hg : m' ≠ 0 ∧ me'.rf + 1 ≤ me.rf ∧ cats r + (me'.ml + 11) + me'.rl ≤ me.rl ∧ nr (st.take me'.na) = true)
    (hq : cal P m' P.al.length (.ref 0 :: as) s fun v s' => wpl P Q sc mi me (pc + 3) ls (v.toList ++ r) (W2 s' t) R) : wpl P Q sc mi me pc ls st (W2 s t) R := by
  refine wpl_call (o := 0) hf hm hme hst has ⟨hg.1, by show 0 < 2; decide, hg.2⟩ ?_
  refine cal.mono (show cal P m' P.al.length (.ref 0 :: as) ((W2 s t).1 0) _ from hq) fun v s' h => ?_
  show wpl P Q sc mi me (pc + 3) ls (v.toList ++ r) (uo (uo (uo (fun _ => s0) 0 s) 1 t) 0 s', 2, false) R
  rw [uo_swap _ (by decide), uo_uo]; exact h
theorem wpl_v2b (hf : fetch me.cd pc = some (.invokevirtual x, n)) (hm : asc Q.vx x = some m') (hme : asc P.ms m' = some me') (hst : st.drop me'.na = .ref 2 :: r) (has : (st.take me'.na).reverse = as)
    (hg : m' ≠ 0 ∧ me'.rf + 1 ≤ me.rf ∧ cats r + (me'.ml + 11) + me'.rl ≤ me.rl ∧ nr (st.take me'.na) = true)
    (hq : cal P m' P.al.length (.ref 0 :: as) t fun v s' => wpl P Q sc mi me (pc + 3) ls (v.toList ++ r) (W2 s s') R) : wpl P Q sc mi me pc ls st (W2 s t) R := by
  refine wpl_call (o := 1) hf hm hme hst has ⟨hg.1, by show 1 < 2; decide, hg.2⟩ ?_
  refine cal.mono (show cal P m' P.al.length (.ref 0 :: as) ((W2 s t).1 1) _ from hq) fun v s' h => ?_
  show wpl P Q sc mi me (pc + 3) ls (v.toList ++ r) (uo (uo (uo (fun _ => s0) 0 s) 1 t) 1 s', 2, false) R
  rw [uo_uo]; exact h
end Worlds
theorem cal_I {P : Cl} {m' c : Nat} {as : List Value} {s : St} {F : Option Value → St → Prop} (h : calI P m' c as s fun v s' => F (some (.int v)) s') : cal P m' c as s F := cal.mono h fun _ _ ⟨v, e, q⟩ => by subst e; exact q
theorem cal_L {P : Cl} {m' c : Nat} {as : List Value} {s : St} {F : Option Value → St → Prop} (h : calL P m' c as s fun v s' => F (some (.long v)) s') : cal P m' c as s F := cal.mono h fun _ _ ⟨v, e, q⟩ => by subst e; exact q
theorem cal_V {P : Cl} {m' c : Nat} {as : List Value} {s : St} {F : Option Value → St → Prop} (h : calV P m' c as s fun s' => F none s') : cal P m' c as s F := cal.mono h fun _ _ ⟨e, q⟩ => by subst e; exact q
theorem lal_I {P : Cl} {Q : Lw} {sc : Sc} {m' : Nat} {as : List Value} {w : Wd} {F : Option Value → Wd → Prop} (h : lalI P Q sc m' as w fun v w' => F (some (.int v)) w') : lal P Q sc m' as w F := lal.mono h fun _ _ ⟨v, e, q⟩ => by subst e; exact q
theorem lal_L {P : Cl} {Q : Lw} {sc : Sc} {m' : Nat} {as : List Value} {w : Wd} {F : Option Value → Wd → Prop} (h : lalL P Q sc m' as w fun v w' => F (some (.long v)) w') : lal P Q sc m' as w F := lal.mono h fun _ _ ⟨v, e, q⟩ => by subst e; exact q
theorem lal_V {P : Cl} {Q : Lw} {sc : Sc} {m' : Nat} {as : List Value} {w : Wd} {F : Option Value → Wd → Prop} (h : lalV P Q sc m' as w fun w' => F none w') : lal P Q sc m' as w F := lal.mono h fun _ _ ⟨e, q⟩ => by subst e; exact q
end Jvm.LM

namespace Jvm.LM
open Sem ClassFile Op Lib Jvm.Stand Jvm.Free Jvm.LawKit Jvm.RoadKit
/-! rules for the steps that ask something -/
abbrev wpcI (P : Cl) (mi : Nat) (me : Me) (c pc : Nat) (ls : Lv) (st : List Value) (s : St) (Q : Int32 → St → Prop) : Prop := wpc P mi me c pc ls st s fun r s' => ∃ v, r = some (.int v) ∧ Q v s'
abbrev wpcL (P : Cl) (mi : Nat) (me : Me) (c pc : Nat) (ls : Lv) (st : List Value) (s : St) (Q : Int64 → St → Prop) : Prop := wpc P mi me c pc ls st s fun r s' => ∃ v, r = some (.long v) ∧ Q v s'
abbrev wpcV (P : Cl) (mi : Nat) (me : Me) (c pc : Nat) (ls : Lv) (st : List Value) (s : St) (Q : St → Prop) : Prop := wpc P mi me c pc ls st s fun r s' => r = none ∧ Q s'
abbrev wplI (P : Cl) (Q : Lw) (sc : Sc) (mi : Nat) (me : Me) (pc : Nat) (ls : Lv) (st : List Value) (w : Wd) (R : Int32 → Wd → Prop) : Prop := wpl P Q sc mi me pc ls st w fun r w' => ∃ v, r = some (.int v) ∧ R v w'
abbrev wplL (P : Cl) (Q : Lw) (sc : Sc) (mi : Nat) (me : Me) (pc : Nat) (ls : Lv) (st : List Value) (w : Wd) (R : Int64 → Wd → Prop) : Prop := wpl P Q sc mi me pc ls st w fun r w' => ∃ v, r = some (.long v) ∧ R v w'
abbrev wplV (P : Cl) (Q : Lw) (sc : Sc) (mi : Nat) (me : Me) (pc : Nat) (ls : Lv) (st : List Value) (w : Wd) (R : Wd → Prop) : Prop := wpl P Q sc mi me pc ls st w fun r w' => r = none ∧ R w'
section C
variable {P : Cl} {mi : Nat} {me : Me} {c pc a N n : Nat} {ls : Lv} {r : List Value} {s s' : St} {Q : Option Value → St → Prop} {j : Int32}
theorem wpc_ldaI {v : Int32} (hf : fetch me.cd pc = some (.iaload, n)) (ha : P.al[a]? = some (0, N)) (hac : a < c) (hj : inb N j) (hv : gI s (a + 1) (ix j) = v) (hq : wpc P mi me c (pc + 1) ls (.int v :: r) s Q) : wpc P mi me c pc ls (.int j :: .ref (a + 1) :: r) s Q := by
  subst hv; exact wpc_lda hf (Or.inl ⟨rfl, rfl⟩) ha hac hj hq
theorem wpc_ldaZ {v : Int32} (hf : fetch me.cd pc = some (.baload, n)) (ha : P.al[a]? = some (1, N)) (hac : a < c) (hj : inb N j) (hv : gI s (a + 1) (ix j) = v) (hq : wpc P mi me c (pc + 1) ls (.int v :: r) s Q) : wpc P mi me c pc ls (.int j :: .ref (a + 1) :: r) s Q := by
  subst hv; exact wpc_lda hf (Or.inr (Or.inl ⟨rfl, rfl⟩)) ha hac hj hq
theorem wpc_ldaJ {v : Int64} (hf : fetch me.cd pc = some (.laload, n)) (ha : P.al[a]? = some (2, N)) (hac : a < c) (hj : inb N j) (hv : gL s (a + 1) (ix j) = v) (hq : wpc P mi me c (pc + 1) ls (.long v :: r) s Q) : wpc P mi me c pc ls (.int j :: .ref (a + 1) :: r) s Q := by
  subst hv; exact wpc_lda hf (Or.inr (Or.inr ⟨rfl, rfl⟩)) ha hac hj hq
theorem wpc_staI {z : Int32} (hf : fetch me.cd pc = some (.iastore, n)) (ha : P.al[a]? = some (0, N)) (hac : a < c) (hj : inb N j) (hs : sI s (a + 1) (ix j) z = s') (hq : wpc P mi me c (pc + 1) ls r s' Q) : wpc P mi me c pc ls (.int z :: .int j :: .ref (a + 1) :: r) s Q :=
  wpc_sta hf (Or.inl ⟨rfl, rfl, z, rfl, hs.symm⟩) ha hac hj hq
theorem wpc_staZ {z : Int32} (hf : fetch me.cd pc = some (.bastore, n)) (ha : P.al[a]? = some (1, N)) (hac : a < c) (hj : inb N j) (hs : sI s (a + 1) (ix j) (z &&& 1) = s') (hq : wpc P mi me c (pc + 1) ls r s' Q) : wpc P mi me c pc ls (.int z :: .int j :: .ref (a + 1) :: r) s Q :=
  wpc_sta hf (Or.inr (Or.inl ⟨rfl, rfl, z, rfl, hs.symm⟩)) ha hac hj hq
theorem wpc_staJ {z : Int64} (hf : fetch me.cd pc = some (.lastore, n)) (ha : P.al[a]? = some (2, N)) (hac : a < c) (hj : inb N j) (hs : sL s (a + 1) (ix j) z = s') (hq : wpc P mi me c (pc + 1) ls r s' Q) : wpc P mi me c pc ls (.long z :: .int j :: .ref (a + 1) :: r) s Q :=
  wpc_sta hf (Or.inr (Or.inr ⟨rfl, rfl, z, rfl, hs.symm⟩)) ha hac hj hq
theorem wpc_pl {i : Instr} {pc' : Nat} {ls' : Lv} {st st' : List Value} (hf : fetch me.cd pc = some (i, n)) (hi : ∀ (rt : Option Value → St → Rs) cl (k : Nat → Nat → Lv → List Value → St → Rs), cstep P mi me rt cl k i c pc ls st s = match pstep i pc ls st with | some (pc', ls', st') => k c pc' ls' st' s | none => none) (h : pstep i pc ls st = some (pc', ls', st')) (hq : wpc P mi me c pc' ls' st' s Q) : wpc P mi me c pc ls st s Q :=
  wpc_one hf (fun rt cl k => by rw [hi, h]) hq
theorem wpc_idiv {x y : Int32} (hf : fetch me.cd pc = some (.idiv, n)) (hy : ¬ y = 0) (hq : wpc P mi me c (pc + 1) ls (.int (x / y) :: r) s Q) : wpc P mi me c pc ls (.int y :: .int x :: r) s Q :=
  wpc_pl hf (fun _ _ _ => rfl) (by simp only [pstep, qstep]; rw [if_neg hy]) hq
theorem wpc_irem {x y : Int32} (hf : fetch me.cd pc = some (.irem, n)) (hy : ¬ y = 0) (hq : wpc P mi me c (pc + 1) ls (.int (x % y) :: r) s Q) : wpc P mi me c pc ls (.int y :: .int x :: r) s Q :=
  wpc_pl hf (fun _ _ _ => rfl) (by simp only [pstep, qstep]; rw [if_neg hy]) hq
theorem wpc_ldiv {x y : Int64} (hf : fetch me.cd pc = some (.ldiv, n)) (hy : ¬ y = 0) (hq : wpc P mi me c (pc + 1) ls (.long (x / y) :: r) s Q) : wpc P mi me c pc ls (.long y :: .long x :: r) s Q :=
  wpc_pl hf (fun _ _ _ => rfl) (by simp only [pstep, qstep]; rw [if_neg hy]) hq
end C
/-- the roads of a switch: one a value, from l on -/
def TS (x : Int32) (F : Int → Prop) : List Int → Int → Prop
  | [], _ => True
  | o :: r, l => (x.toInt = l → F o) ∧ TS x F r (l + 1)
theorem TS_at {x : Int32} {F : Int → Prop} : ∀ {os : List Int} {l : Int}, TS x F os l → l ≤ x.toInt → x.toInt < l + os.length → ∃ o, os[(x.toInt - l).toNat]? = some o ∧ F o := by
  intro os
  induction os with
  | nil => intro l _ h1 h2; simp at h2; omega
  | cons o r ih =>
    intro l h h1 h2
    by_cases e : x.toInt = l
    · exact ⟨o, by rw [e]; simp, h.1 e⟩
    · obtain ⟨o', q1, q2⟩ := ih h.2 (by omega) (by simp at h2; omega)
      refine ⟨o', ?_, q2⟩
      have : (x.toInt - l).toNat = (x.toInt - (l + 1)).toNat + 1 := by omega
      rw [this]; simpa using q1
theorem tsw_ok {x : Int32} {F : Int → Prop} {pc : Nat} {ls : Lv} {r : List Value} {d lo hi : Int} {offs : Array Int} (hd : 0 ≤ (pc : Int) + d) (ho : ∀ o ∈ offs.toList, 0 ≤ (pc : Int) + o) (hh : hi + 1 = lo + offs.toList.length)
    (h1 : TS x F offs.toList lo) (h2 : (x.toInt < lo ∨ x.toInt > hi) → F d) : ∃ o, F o ∧ pstep (.tableswitch d lo hi offs) pc ls (.int x :: r) = some (jmp pc o, ls, r) := by
  by_cases hx : x.toInt < lo ∨ x.toInt > hi
  · refine ⟨d, h2 hx, ?_⟩
    simp only [pstep, qstep]; rw [if_pos hx, if_pos hd]
  · obtain ⟨o, q1, q2⟩ := TS_at h1 (by omega) (by omega)
    have q3 : offs[(x.toInt - lo).toNat]? = some o := by rw [← Array.getElem?_toList]; exact q1
    refine ⟨o, q2, ?_⟩
    simp only [pstep, qstep]; rw [if_neg hx, q3]; dsimp only; rw [if_pos (ho o (List.mem_of_getElem? q1))]
theorem wpc_tsw {P : Cl} {mi : Nat} {me : Me} {c pc n : Nat} {ls : Lv} {r : List Value} {s : St} {Q : Option Value → St → Prop} {x : Int32} {d lo hi : Int} {offs : Array Int} (hf : fetch me.cd pc = some (.tableswitch d lo hi offs, n)) (hd : 0 ≤ (pc : Int) + d) (ho : ∀ o ∈ offs.toList, 0 ≤ (pc : Int) + o) (hh : hi + 1 = lo + offs.toList.length)
    (h1 : TS x (fun o => wpc P mi me c (jmp pc o) ls r s Q) offs.toList lo) (h2 : (x.toInt < lo ∨ x.toInt > hi) → wpc P mi me c (jmp pc d) ls r s Q) : wpc P mi me c pc ls (.int x :: r) s Q := by
  obtain ⟨o, q1, q2⟩ := tsw_ok (ls := ls) (r := r) hd ho hh h1 h2
  exact wpc_pl hf (fun _ _ _ => rfl) q2 q1
section L
variable {P : Cl} {Q : Lw} {sc : Sc} {mi : Nat} {me : Me} {pc n : Nat} {ls : Lv} {r : List Value} {w : Wd} {R : Option Value → Wd → Prop}
theorem wpl_pl {i : Instr} {pc' : Nat} {ls' : Lv} {st st' : List Value} (hf : fetch me.cd pc = some (i, n)) (hi : isPl i = true) (h : pstep i pc ls st = some (pc', ls', st')) (hq : wpl P Q sc mi me pc' ls' st' w R) : wpl P Q sc mi me pc ls st w R :=
  wpl_one hf (fun rt cc cl k => by rw [lstep_pl hi, h]) hq
theorem wpl_idiv {x y : Int32} (hf : fetch me.cd pc = some (.idiv, n)) (hy : ¬ y = 0) (hq : wpl P Q sc mi me (pc + 1) ls (.int (x / y) :: r) w R) : wpl P Q sc mi me pc ls (.int y :: .int x :: r) w R :=
  wpl_pl hf rfl (by simp only [pstep, qstep]; rw [if_neg hy]) hq
theorem wpl_irem {x y : Int32} (hf : fetch me.cd pc = some (.irem, n)) (hy : ¬ y = 0) (hq : wpl P Q sc mi me (pc + 1) ls (.int (x % y) :: r) w R) : wpl P Q sc mi me pc ls (.int y :: .int x :: r) w R :=
  wpl_pl hf rfl (by simp only [pstep, qstep]; rw [if_neg hy]) hq
theorem wpl_ldiv {x y : Int64} (hf : fetch me.cd pc = some (.ldiv, n)) (hy : ¬ y = 0) (hq : wpl P Q sc mi me (pc + 1) ls (.long (x / y) :: r) w R) : wpl P Q sc mi me pc ls (.long y :: .long x :: r) w R :=
  wpl_pl hf rfl (by simp only [pstep, qstep]; rw [if_neg hy]) hq
theorem wpl_tsw {x : Int32} {d lo hi : Int} {offs : Array Int} (hf : fetch me.cd pc = some (.tableswitch d lo hi offs, n)) (hd : 0 ≤ (pc : Int) + d) (ho : ∀ o ∈ offs.toList, 0 ≤ (pc : Int) + o) (hh : hi + 1 = lo + offs.toList.length)
    (h1 : TS x (fun o => wpl P Q sc mi me (jmp pc o) ls r w R) offs.toList lo) (h2 : (x.toInt < lo ∨ x.toInt > hi) → wpl P Q sc mi me (jmp pc d) ls r w R) : wpl P Q sc mi me pc ls (.int x :: r) w R := by
  obtain ⟨o, q1, q2⟩ := tsw_ok (ls := ls) (r := r) hd ho hh h1 h2
  exact wpl_pl hf rfl q2 q1
end L
/-! the links, by lists -/
def AllA {α : Type} (Q : Nat → α → Prop) : List (Nat × α) → Prop
  | [] => True
  | (a, b) :: r => Q a b ∧ AllA Q r
theorem asc_all {α : Type} {Q : Nat → α → Prop} {l : List (Nat × α)} (h : AllA Q l) : ∀ k v, asc l k = some v → Q k v := by
  induction l with
  | nil => intro k v e; cases e
  | cons x r ih =>
    intro k v e
    obtain ⟨a, b⟩ := x
    simp only [asc] at e
    cases q : Nat.beq a k
    · rw [q] at e; exact ih h.2 k v e
    · rw [q] at e; cases e
      obtain rfl := Nat.eq_of_beq_eq_true q
      exact h.1
def AllL (Q : Nat → Nat → Prop) : List (Nat × Nat) → Prop
  | [] => True
  | (a, b) :: r => Q a b ∧ AllL Q r
theorem lst_all {Q : Nat → Nat → Prop} {l : List (Nat × Nat)} (h : AllL Q l) : ∀ (j tt N : Nat), l[j]? = some (tt, N) → Q tt N := by
  induction l with
  | nil => intro j tt N e; simp at e
  | cons x r ih =>
    intro j tt N e
    obtain ⟨a, b⟩ := x
    cases j with
    | zero => simp at e; obtain ⟨rfl, rfl⟩ := e; exact h.1
    | succ j => simp at e; exact ih h.2 j tt N e
def dst1 (k : Nat) (fe : Fe) : List (Nat × Fe) → Bool
  | [] => true
  | (k', fe') :: r => (!(fe.1 == fe'.1)) && (decide (fe.2.2.1 < 3) || !(Nat.beq fe.2.2.1 fe'.2.2.1)) && dst1 k fe r
def dst : List (Nat × Fe) → Bool
  | [] => true
  | (k, fe) :: r => dst1 k fe r && dst r
theorem dst1_ok {k : Nat} {fe : Fe} {l : List (Nat × Fe)} (h : dst1 k fe l = true) : ∀ k' fe', asc l k' = some fe' → fe.1 ≠ fe'.1 ∧ (3 ≤ fe.2.2.1 → fe.2.2.1 ≠ fe'.2.2.1) := by
  induction l with
  | nil => intro k' fe' e; cases e
  | cons x r ih =>
    intro k' fe' e
    obtain ⟨a, b⟩ := x
    simp only [dst1, Bool.and_eq_true] at h
    obtain ⟨⟨h1, h2⟩, h3⟩ := h
    simp only [asc] at e
    cases q : Nat.beq a k'
    · rw [q] at e; exact ih h3 k' fe' e
    · rw [q] at e; cases e
      refine ⟨fun q2 => by rw [q2] at h1; simp at h1, fun q2 q3 => ?_⟩
      rw [q3] at h2 q2
      simp only [Bool.or_eq_true, decide_eq_true_eq, Bool.not_eq_true'] at h2
      rcases h2 with h2 | h2
      · omega
      · rw [Nat.beq_refl] at h2; cases h2
theorem dst_ok {l : List (Nat × Fe)} (h : dst l = true) : ∀ (k k' : Nat) (fe fe' : Fe), asc l k = some fe → asc l k' = some fe' → k ≠ k' → fe.1 ≠ fe'.1 ∧ (3 ≤ fe.2.2.1 → fe.2.2.1 ≠ fe'.2.2.1) := by
  induction l with
  | nil => intro k k' fe fe' e; cases e
  | cons x r ih =>
    intro k k' fe fe' e e' hne
    obtain ⟨a, b⟩ := x
    simp only [dst, Bool.and_eq_true] at h
    simp only [asc] at e e'
    cases q : Nat.beq a k <;> cases q' : Nat.beq a k' <;> rw [q] at e <;> rw [q'] at e'
    · exact ih h.2 k k' fe fe' e e' hne
    · cases e'
      obtain ⟨h1, h2⟩ := dst1_ok h.1 k fe e
      exact ⟨Ne.symm h1, fun z1 z2 => h2 (z2 ▸ z1) z2.symm⟩
    · cases e; exact dst1_ok h.1 k' fe' e'
    · exact absurd ((Nat.eq_of_beq_eq_true q).symm.trans (Nat.eq_of_beq_eq_true q')) hne
def chk (bytes : ByteArray) : Cd → Bool
  | [] => true
  | (pc, i, n) :: r => (match decode bytes pc with | .ok (i', n') => decide (i' = i ∧ n' = n) | .error _ => false) && (isSw i || Nat.beq n (ilen i)) && chk bytes r
theorem chk_ok {bytes : ByteArray} {cd : Cd} (h : chk bytes cd = true) : ∀ pc i n, fetch cd pc = some (i, n) → decode bytes pc = .ok (i, n) ∧ (isSw i = true ∨ n = ilen i) := by
  induction cd with
  | nil => intro pc i n e; cases e
  | cons x r ih =>
    intro pc i n e
    obtain ⟨a, i', n'⟩ := x
    simp only [chk, Bool.and_eq_true] at h
    obtain ⟨⟨h1, h2⟩, h3⟩ := h
    simp only [fetch] at e
    cases q : Nat.beq a pc
    · rw [q] at e; exact ih h3 pc i n e
    · rw [q] at e; cases e
      obtain rfl := Nat.eq_of_beq_eq_true q
      refine ⟨?_, ?_⟩
      · split at h1
        · rename_i i2 n2 hd
          obtain ⟨rfl, rfl⟩ := of_decide_eq_true h1
          exact hd
        · cases h1
      · simp only [Bool.or_eq_true] at h2
        exact h2.imp id Nat.eq_of_beq_eq_true
/-- the array that the law is handed -/
theorem script_of {s : State} {args : Array Value} {a : Addr} {cl : Cell} {t : Term} {k : Int32} (hf : Fit s) (A : Arr s s.heap a cl .int) (ev : t.eval args s none [] s = some (.ref a)) (hl : (Cond.le (Term.length t) (Term.int k)).value args s none s [] = some true) :
    (cl.slots.size < 2 ^ 31 ∧ (cl.slots.size : Int) ≤ k.toInt) ∧ SRep s s.heap a s.heap.size (some (cl.slots.size, fun i => match cl.slots[i]? with | some (.int x) => x | _ => 0)) := by
  obtain ⟨x, y, h1, h2, -⟩ := cmp_v (Or.inr (Or.inr hl))
  have hz : cl.slots.size < 2 ^ 31 := by
    have q : (Term.length t).eval args s none [] s = if cl.slots.size < 2 ^ 31 then some (.int cl.slots.size.toInt32) else none := by simp [Term.eval, ev, A.fin (Vm.Alike.refl _)]
    rw [h1] at q
    split at q
    · assumption
    · cases q
  have h1' := len_f ev (A.fin (Vm.Alike.refl _)) hz (args := args) (first := s) (o := none) (idx := [])
  have hle := gotT (Cond.le_ints h1' (Term.int_eval k)) hl
  rw [Int32.le_iff_toInt_le, len_toInt hz] at hle
  refine ⟨⟨hz, hle⟩, A.lt, cl, A, rfl, fun i hi => ?_⟩
  have e1 : cl.slots[i]? = some cl.slots[i] := Array.getElem?_eq_getElem hi
  have q := elem_fit hf A (j := i.toInt32) (idx_in hi hz)
  have e2 : i.toInt32.toNatClampNeg = i := by
    have := len_toInt (n := i) (by omega)
    simp only [Int32.toNatClampNeg, this]; rfl
  rw [e2] at q
  obtain ⟨v, hv, hfv⟩ := q
  obtain ⟨x, rfl⟩ := fit_I hfv (Or.inl rfl)
  rw [hv]
  dsimp only
  rw [hv]
end Jvm.LM
namespace Jvm.LM
theorem law_run {P : Cl} {Q : Lw} {sc : Sc} {as : List Value} (h : lalI P Q sc 0 as W0 fun v _ => v = 1) {me : Me} (hme : asc Q.ms 0 = some me) : ∃ f w', lexec P Q sc f 0 me 0 (lay as me.ml) [] W0 = some (some (.int 1), w') := by
  obtain ⟨f, v, w', h1, v', rfl, rfl⟩ := h
  refine ⟨f, w', ?_⟩
  simp only [lcall, hme] at h1
  split at h1
  · exact h1
  · cases h1
end Jvm.LM

namespace Jvm.LM
open Jvm.RoadKit
/-! numbers -/
theorem i32_add {x y : Int32} (h1 : -2147483648 ≤ x.toInt + y.toInt) (h2 : x.toInt + y.toInt < 2147483648) : (x + y).toInt = x.toInt + y.toInt := by
  have := c_iadd x y; have := rng32 (x + y); omega
theorem i32_sub {x y : Int32} (h1 : -2147483648 ≤ x.toInt - y.toInt) (h2 : x.toInt - y.toInt < 2147483648) : (x - y).toInt = x.toInt - y.toInt := by
  have := c_isub x y; have := rng32 (x - y); omega
theorem i32_mul {x y : Int32} (h1 : -2147483648 ≤ x.toInt * y.toInt) (h2 : x.toInt * y.toInt < 2147483648) : (x * y).toInt = x.toInt * y.toInt := by
  have := c_imul x y; have := rng32 (x * y); omega
theorem ix_int {i : Int32} (h : 0 ≤ i.toInt) : (ix i : Int) = i.toInt := by simp only [ix, Int32.toNatClampNeg]; omega
theorem ix_inj {i j : Int32} (hi : 0 ≤ i.toInt) (hj : 0 ≤ j.toInt) : ix i = ix j ↔ i = j := by
  have a := ix_int hi; have b := ix_int hj
  rw [← Int32.toInt_inj]; omega
theorem i32_lt {x y : Int32} : x < y ↔ x.toInt < y.toInt := Int32.lt_iff_toInt_lt
theorem i32_eq {x y : Int32} : x = y ↔ x.toInt = y.toInt := Int32.toInt_inj.symm
/-- a loop that counts up to N: from the next turn to this one -/
theorem loop_up {F : Int32 → Prop} (N : Int) (hN : N < 2147483647) (step : ∀ i, 0 ≤ i.toInt → i.toInt < N → (i + 1).toInt = i.toInt + 1 → F (i + 1) → F i) (last : ∀ i, i.toInt = N → F i) : ∀ i, 0 ≤ i.toInt → i.toInt ≤ N → F i := by
  have key : ∀ n : Nat, ∀ i : Int32, 0 ≤ i.toInt → i.toInt + n = N → F i := by
    intro n
    induction n with
    | zero => intro i h0 h1; exact last i (by omega)
    | succ n ih =>
      intro i h0 h1
      have e : (i + 1).toInt = i.toInt + 1 := i32_add (by simp; omega) (by simp; omega)
      exact step i h0 (by omega) e (ih (i + 1) (by omega) (by omega))
  intro i h0 h1
  exact key (N - i.toInt).toNat i h0 (by omega)
theorem cmpL_lt {x y : Int64} : Jvm.Free.XT.cmpL x y < 0 ↔ x < y := by
  unfold Jvm.Free.XT.cmpL; split
  · rename_i h; exact ⟨fun q => absurd q (by decide), fun q => by rw [Int64.lt_iff_toInt_lt] at h q; omega⟩
  · split
    · rename_i h; subst h; exact ⟨fun q => absurd q (by decide), fun q => by rw [Int64.lt_iff_toInt_lt] at q; omega⟩
    · rename_i h1 h2
      refine ⟨fun _ => ?_, fun _ => by decide⟩
      rw [Int64.lt_iff_toInt_lt] at h1 ⊢; rw [← Int64.toInt_inj] at h2; omega
theorem cmpL_gt {x y : Int64} : 0 < Jvm.Free.XT.cmpL x y ↔ y < x := by
  unfold Jvm.Free.XT.cmpL; split
  · rename_i h; exact ⟨fun _ => h, fun _ => by decide⟩
  · rename_i h; split
    · exact ⟨fun q => absurd q (by decide), fun q => absurd q h⟩
    · exact ⟨fun q => absurd q (by decide), fun q => absurd q h⟩
theorem cmpL_eq {x y : Int64} : Jvm.Free.XT.cmpL x y = 0 ↔ x = y := by
  unfold Jvm.Free.XT.cmpL; split
  · rename_i h; exact ⟨fun q => absurd q (by decide), fun q => by subst q; rw [Int64.lt_iff_toInt_lt] at h; omega⟩
  · split
    · rename_i h; exact ⟨fun _ => h, fun _ => rfl⟩
    · rename_i h1 h2; exact ⟨fun q => absurd q (by decide), fun q => absurd q h2⟩
end Jvm.LM

namespace Jvm.Pilot.@@N@@
open Jvm Jvm.ClassFile Sem Op Lib Jvm.Free Jvm.Stand Jvm.LawKit Jvm.RoadKit Jvm.LM Bundle Jvm.Pilot.@@N@@.Jvm.D
def cm0 : Me := ("<init>", "(III)V", 3, 0, [(0, .aload_n 0, 1), (1, .invokespecial 1, 3), (4, .aload_n 0, 1), (5, .bipush 8, 2), (7, .newarray .boolean, 2), (9, .putfield 7, 3), (12, .aload_n 0, 1), (13, .bipush 8, 2), (15, .newarray .boolean, 2), (17, .putfield 13, 3), (20, .aload_n 0, 1), (21, .sipush 128, 3), (24, .newarray .int, 2), (26, .putfield 16, 3), (29, .aload_n 0, 1), (30, .bipush 8, 2), (32, .newarray .int, 2), (34, .putfield 20, 3), (37, .aload_n 0, 1), (38, .bipush 8, 2), (40, .newarray .int, 2), (42, .putfield 23, 3), (45, .aload_n 0, 1), (46, .bipush 64, 2), (48, .newarray .boolean, 2), (50, .putfield 26, 3), (53, .aload_n 0, 1), (54, .bipush 64, 2), (56, .newarray .int, 2), (58, .putfield 29, 3), (61, .aload_n 0, 1), (62, .bipush 64, 2), (64, .newarray .boolean, 2), (66, .putfield 32, 3), (69, .aload_n 0, 1), (70, .bipush 64, 2), (72, .newarray .int, 2), (74, .putfield 35, 3), (77, .aload_n 0, 1), (78, .bipush 16, 2), (80, .newarray .int, 2), (82, .putfield 38, 3), (85, .aload_n 0, 1), (86, .bipush 16, 2), (88, .newarray .int, 2), (90, .putfield 41, 3), (93, .aload_n 0, 1), (94, .aload_n 0, 1), (95, .iload_n 1, 1), (96, .iconst 1, 1), (97, .bipush 8, 2), (99, .invokevirtual 44, 3), (102, .putfield 48, 3), (105, .aload_n 0, 1), (106, .aload_n 0, 1), (107, .iload_n 2, 1), (108, .iconst 1, 1), (109, .bipush 16, 2), (111, .invokevirtual 44, 3), (114, .putfield 52, 3), (117, .aload_n 0, 1), (118, .aload_n 0, 1), (119, .iload_n 3, 1), (120, .iconst 1, 1), (121, .iconst 4, 1), (122, .invokevirtual 44, 3), (125, .putfield 55, 3), (128, .aload_n 0, 1), (129, .iconst 0, 1), (130, .putfield 58, 3), (133, .return_, 1)], 4, 1, 16)
def cm2 : Me := ("clamp", "(III)I", 3, 1, [(0, .iload_n 1, 1), (1, .iload_n 2, 1), (2, .if_icmp .ge 5, 3), (5, .iload_n 2, 1), (6, .ireturn, 1), (7, .iload_n 1, 1), (8, .iload_n 3, 1), (9, .if_icmp .le 5, 3), (12, .iload_n 3, 1), (13, .ireturn, 1), (14, .iload_n 1, 1), (15, .ireturn, 1)], 4, 0, 0)
def cm3 : Me := ("isOpen", "(I)Z", 1, 2, [(0, .iload_n 1, 1), (1, .ifCond .lt 13, 3), (4, .iload_n 1, 1), (5, .iconst 2, 1), (6, .aload_n 0, 1), (7, .getfield 48, 3), (10, .imul, 1), (11, .if_icmp .lt 5, 3), (14, .iconst 0, 1), (15, .ireturn, 1), (16, .iload_n 1, 1), (17, .iconst 1, 1), (18, .ishr, 1), (19, .istore_n 2, 1), (20, .iload_n 1, 1), (21, .iconst 1, 1), (22, .iand, 1), (23, .ifCond .ne 10, 3), (26, .aload_n 0, 1), (27, .getfield 7, 3), (30, .iload_n 2, 1), (31, .baload, 1), (32, .ireturn, 1), (33, .aload_n 0, 1), (34, .getfield 13, 3), (37, .iload_n 2, 1), (38, .baload, 1), (39, .ireturn, 1)], 3, 0, 0)
def cm4 : Me := ("rawReady", "(I)I", 1, 1, [(0, .iload_n 1, 1), (1, .iconst 1, 1), (2, .ishr, 1), (3, .istore_n 2, 1), (4, .iconst 0, 1), (5, .istore_n 3, 1), (6, .iload_n 1, 1), (7, .iconst 1, 1), (8, .iand, 1), (9, .ifCond .ne 41, 3), (12, .aload_n 0, 1), (13, .getfield 23, 3), (16, .iload_n 2, 1), (17, .iaload, 1), (18, .ifCond .gt 12, 3), (21, .aload_n 0, 1), (22, .getfield 13, 3), (25, .iload_n 2, 1), (26, .baload, 1), (27, .ifCond .ne 7, 3), (30, .iload_n 3, 1), (31, .iconst 1, 1), (32, .ior, 1), (33, .istore_n 3, 1), (34, .aload_n 0, 1), (35, .getfield 13, 3), (38, .iload_n 2, 1), (39, .baload, 1), (40, .ifCond .ne 50, 3), (43, .iload_n 3, 1), (44, .iconst 4, 1), (45, .ior, 1), (46, .istore_n 3, 1), (47, .goto 43, 3), (50, .aload_n 0, 1), (51, .getfield 23, 3), (54, .iload_n 2, 1), (55, .iaload, 1), (56, .aload_n 0, 1), (57, .getfield 52, 3), (60, .if_icmp .lt 12, 3), (63, .aload_n 0, 1), (64, .getfield 7, 3), (67, .iload_n 2, 1), (68, .baload, 1), (69, .ifCond .ne 7, 3), (72, .iload_n 3, 1), (73, .iconst 2, 1), (74, .ior, 1), (75, .istore_n 3, 1), (76, .aload_n 0, 1), (77, .getfield 7, 3), (80, .iload_n 2, 1), (81, .baload, 1), (82, .ifCond .ne 8, 3), (85, .iload_n 3, 1), (86, .bipush 8, 2), (88, .ior, 1), (89, .istore_n 3, 1), (90, .iload_n 3, 1), (91, .ireturn, 1)], 4, 0, 0)
def cm5 : Me := ("watched", "(I)I", 1, 1, [(0, .iload_n 1, 1), (1, .iconst 3, 1), (2, .iand, 1), (3, .iconst 4, 1), (4, .ior, 1), (5, .bipush 8, 2), (7, .ior, 1), (8, .ireturn, 1)], 2, 0, 0)
def cm6 : Me := ("validQ", "(I)Z", 1, 2, [(0, .iload_n 1, 1), (1, .ifCond .lt 15, 3), (4, .iload_n 1, 1), (5, .aload_n 0, 1), (6, .getfield 55, 3), (9, .if_icmp .ge 7, 3), (12, .iconst 1, 1), (13, .goto 4, 3), (16, .iconst 0, 1), (17, .ireturn, 1)], 2, 0, 0)
def cm7 : Me := ("validWord", "(I)Z", 1, 2, [(0, .iload_n 1, 1), (1, .bipush (-52), 2), (3, .iand, 1), (4, .ifCond .ne 7, 3), (7, .iconst 1, 1), (8, .goto 4, 3), (11, .iconst 0, 1), (12, .ireturn, 1)], 2, 0, 0)
def cm8 : Me := ("slot", "(II)I", 2, 1, [(0, .iload_n 1, 1), (1, .bipush 16, 2), (3, .imul, 1), (4, .iload_n 2, 1), (5, .iadd, 1), (6, .ireturn, 1)], 3, 0, 0)
def cm9 : Me := ("peek", "(II)I", 2, 1, [(0, .aload_n 0, 1), (1, .getfield 32, 3), (4, .iload_n 1, 1), (5, .baload, 1), (6, .ifCond .ne 5, 3), (9, .iconst 0, 1), (10, .ireturn, 1), (11, .aload_n 0, 1), (12, .getfield 29, 3), (15, .iload_n 1, 1), (16, .iaload, 1), (17, .bipush 16, 2), (19, .iand, 1), (20, .ifCond .eq 10, 3), (23, .aload_n 0, 1), (24, .getfield 35, 3), (27, .iload_n 1, 1), (28, .iaload, 1), (29, .ireturn, 1), (30, .aload_n 0, 1), (31, .iload_n 2, 1), (32, .invokevirtual 61, 3), (35, .aload_n 0, 1), (36, .aload_n 0, 1), (37, .getfield 29, 3), (40, .iload_n 1, 1), (41, .iaload, 1), (42, .invokevirtual 65, 3), (45, .iand, 1), (46, .ireturn, 1)], 3, 1, 15)
def cm10 : Me := ("arm", "(III)V", 3, 0, [(0, .aload_n 0, 1), (1, .getfield 29, 3), (4, .iload_n 1, 1), (5, .iload_n 3, 1), (6, .iastore, 1), (7, .aload_n 0, 1), (8, .getfield 32, 3), (11, .iload_n 1, 1), (12, .iconst 1, 1), (13, .bastore, 1), (14, .iload_n 3, 1), (15, .bipush 16, 2), (17, .iand, 1), (18, .ifCond .eq 23, 3), (21, .aload_n 0, 1), (22, .getfield 35, 3), (25, .iload_n 1, 1), (26, .aload_n 0, 1), (27, .iload_n 2, 1), (28, .invokevirtual 61, 3), (31, .aload_n 0, 1), (32, .iload_n 3, 1), (33, .invokevirtual 65, 3), (36, .iand, 1), (37, .iastore, 1), (38, .goto 10, 3), (41, .aload_n 0, 1), (42, .getfield 35, 3), (45, .iload_n 1, 1), (46, .iconst 0, 1), (47, .iastore, 1), (48, .return_, 1)], 4, 1, 17)
def cm11 : Me := ("clearReg", "(I)V", 1, 0, [(0, .aload_n 0, 1), (1, .getfield 26, 3), (4, .iload_n 1, 1), (5, .iconst 0, 1), (6, .bastore, 1), (7, .aload_n 0, 1), (8, .getfield 29, 3), (11, .iload_n 1, 1), (12, .iconst 0, 1), (13, .iastore, 1), (14, .aload_n 0, 1), (15, .getfield 32, 3), (18, .iload_n 1, 1), (19, .iconst 0, 1), (20, .bastore, 1), (21, .aload_n 0, 1), (22, .getfield 35, 3), (25, .iload_n 1, 1), (26, .iconst 0, 1), (27, .iastore, 1), (28, .return_, 1)], 2, 0, 0)
def cm12 : Me := ("removeRegs", "(I)V", 1, 0, [(0, .iconst 0, 1), (1, .istore_n 2, 1), (2, .iload_n 2, 1), (3, .aload_n 0, 1), (4, .getfield 55, 3), (7, .if_icmp .ge 19, 3), (10, .aload_n 0, 1), (11, .aload_n 0, 1), (12, .iload_n 2, 1), (13, .iload_n 1, 1), (14, .invokevirtual 68, 3), (17, .invokevirtual 72, 3), (20, .iinc 2 1, 3), (23, .goto (-21), 3), (26, .return_, 1)], 3, 1, 15)
def cm13 : Me := ("edgeUpdate", "(II)V", 2, 0, [(0, .aload_n 0, 1), (1, .iload_n 1, 1), (2, .invokevirtual 76, 3), (5, .ifCond .ne 4, 3), (8, .return_, 1), (9, .aload_n 0, 1), (10, .iload_n 1, 1), (11, .invokevirtual 61, 3), (14, .istore_n 3, 1), (15, .iconst 0, 1), (16, .istore 4, 2), (18, .iload 4, 2), (20, .aload_n 0, 1), (21, .getfield 55, 3), (24, .if_icmp .ge 89, 3), (27, .aload_n 0, 1), (28, .iload 4, 2), (30, .iload_n 1, 1), (31, .invokevirtual 68, 3), (34, .istore 5, 2), (36, .aload_n 0, 1), (37, .getfield 26, 3), (40, .iload 5, 2), (42, .baload, 1), (43, .ifCond .eq 64, 3), (46, .aload_n 0, 1), (47, .getfield 32, 3), (50, .iload 5, 2), (52, .baload, 1), (53, .ifCond .eq 54, 3), (56, .aload_n 0, 1), (57, .getfield 29, 3), (60, .iload 5, 2), (62, .iaload, 1), (63, .bipush 16, 2), (65, .iand, 1), (66, .ifCond .eq 41, 3), (69, .aload_n 0, 1), (70, .aload_n 0, 1), (71, .getfield 29, 3), (74, .iload 5, 2), (76, .iaload, 1), (77, .invokevirtual 65, 3), (80, .istore 6, 2), (82, .aload_n 0, 1), (83, .getfield 35, 3), (86, .iload 5, 2), (88, .aload_n 0, 1), (89, .getfield 35, 3), (92, .iload 5, 2), (94, .iaload, 1), (95, .iload_n 3, 1), (96, .iand, 1), (97, .iload_n 3, 1), (98, .iload_n 2, 1), (99, .iconst (-1), 1), (100, .ixor, 1), (101, .iand, 1), (102, .iload 6, 2), (104, .iand, 1), (105, .ior, 1), (106, .iastore, 1), (107, .iinc 4 1, 3), (110, .goto (-92), 3), (113, .return_, 1)], 7, 1, 15)
def cm14 : Me := ("lookup", "(II)I", 2, 1, [(0, .aload_n 0, 1), (1, .iload_n 1, 1), (2, .invokevirtual 80, 3), (5, .ifCond .eq 11, 3), (8, .aload_n 0, 1), (9, .iload_n 2, 1), (10, .invokevirtual 76, 3), (13, .ifCond .ne 5, 3), (16, .iconst (-1), 1), (17, .ireturn, 1), (18, .aload_n 0, 1), (19, .iload_n 1, 1), (20, .iload_n 2, 1), (21, .invokevirtual 68, 3), (24, .istore_n 3, 1), (25, .aload_n 0, 1), (26, .getfield 26, 3), (29, .iload_n 3, 1), (30, .baload, 1), (31, .ifCond .ne 5, 3), (34, .iconst (-1), 1), (35, .ireturn, 1), (36, .iload_n 3, 1), (37, .ireturn, 1)], 4, 1, 14)
def cm15 : Me := ("createPipe", "()I", 0, 1, [(0, .iconst 0, 1), (1, .istore_n 1, 1), (2, .iload_n 1, 1), (3, .aload_n 0, 1), (4, .getfield 48, 3), (7, .if_icmp .ge 57, 3), (10, .aload_n 0, 1), (11, .getfield 7, 3), (14, .iload_n 1, 1), (15, .baload, 1), (16, .ifCond .ne 42, 3), (19, .aload_n 0, 1), (20, .getfield 13, 3), (23, .iload_n 1, 1), (24, .baload, 1), (25, .ifCond .ne 33, 3), (28, .aload_n 0, 1), (29, .getfield 7, 3), (32, .iload_n 1, 1), (33, .iconst 1, 1), (34, .bastore, 1), (35, .aload_n 0, 1), (36, .getfield 13, 3), (39, .iload_n 1, 1), (40, .iconst 1, 1), (41, .bastore, 1), (42, .aload_n 0, 1), (43, .getfield 20, 3), (46, .iload_n 1, 1), (47, .iconst 0, 1), (48, .iastore, 1), (49, .aload_n 0, 1), (50, .getfield 23, 3), (53, .iload_n 1, 1), (54, .iconst 0, 1), (55, .iastore, 1), (56, .iload_n 1, 1), (57, .ireturn, 1), (58, .iinc 1 1, 3), (61, .goto (-59), 3), (64, .bipush (-8), 2), (66, .ireturn, 1)], 2, 0, 0)
def cm16 : Me := ("write", "(II)I", 2, 1, [(0, .aload_n 0, 1), (1, .iload_n 1, 1), (2, .invokevirtual 76, 3), (5, .ifCond .eq 9, 3), (8, .iload_n 1, 1), (9, .iconst 1, 1), (10, .iand, 1), (11, .ifCond .ne 5, 3), (14, .iconst (-1), 1), (15, .ireturn, 1), (16, .iload_n 1, 1), (17, .iconst 1, 1), (18, .ishr, 1), (19, .istore_n 3, 1), (20, .aload_n 0, 1), (21, .getfield 7, 3), (24, .iload_n 3, 1), (25, .baload, 1), (26, .ifCond .ne 6, 3), (29, .bipush (-4), 2), (31, .ireturn, 1), (32, .aload_n 0, 1), (33, .getfield 23, 3), (36, .iload_n 3, 1), (37, .iaload, 1), (38, .aload_n 0, 1), (39, .getfield 52, 3), (42, .if_icmp .lt 6, 3), (45, .bipush (-2), 2), (47, .ireturn, 1), (48, .aload_n 0, 1), (49, .iconst 2, 1), (50, .iload_n 3, 1), (51, .imul, 1), (52, .invokevirtual 61, 3), (55, .istore 4, 2), (57, .aload_n 0, 1), (58, .iconst 2, 1), (59, .iload_n 3, 1), (60, .imul, 1), (61, .iconst 1, 1), (62, .iadd, 1), (63, .invokevirtual 61, 3), (66, .istore 5, 2), (68, .aload_n 0, 1), (69, .getfield 20, 3), (72, .iload_n 3, 1), (73, .iaload, 1), (74, .aload_n 0, 1), (75, .getfield 23, 3), (78, .iload_n 3, 1), (79, .iaload, 1), (80, .iadd, 1), (81, .bipush 15, 2), (83, .iand, 1), (84, .istore 6, 2), (86, .aload_n 0, 1), (87, .getfield 16, 3), (90, .iload_n 3, 1), (91, .bipush 16, 2), (93, .imul, 1), (94, .iload 6, 2), (96, .iadd, 1), (97, .iload_n 2, 1), (98, .sipush 255, 3), (101, .iand, 1), (102, .iastore, 1), (103, .aload_n 0, 1), (104, .getfield 23, 3), (107, .iload_n 3, 1), (108, .aload_n 0, 1), (109, .getfield 23, 3), (112, .iload_n 3, 1), (113, .iaload, 1), (114, .iconst 1, 1), (115, .iadd, 1), (116, .iastore, 1), (117, .aload_n 0, 1), (118, .iconst 2, 1), (119, .iload_n 3, 1), (120, .imul, 1), (121, .iload 4, 2), (123, .invokevirtual 83, 3), (126, .aload_n 0, 1), (127, .iconst 2, 1), (128, .iload_n 3, 1), (129, .imul, 1), (130, .iconst 1, 1), (131, .iadd, 1), (132, .iload 5, 2), (134, .invokevirtual 83, 3), (137, .iconst 0, 1), (138, .ireturn, 1)], 7, 2, 33)
def cm17 : Me := ("read", "(I)I", 1, 1, [(0, .aload_n 0, 1), (1, .iload_n 1, 1), (2, .invokevirtual 76, 3), (5, .ifCond .eq 9, 3), (8, .iload_n 1, 1), (9, .iconst 1, 1), (10, .iand, 1), (11, .ifCond .eq 5, 3), (14, .iconst (-1), 1), (15, .ireturn, 1), (16, .iload_n 1, 1), (17, .iconst 1, 1), (18, .ishr, 1), (19, .istore_n 2, 1), (20, .aload_n 0, 1), (21, .getfield 23, 3), (24, .iload_n 2, 1), (25, .iaload, 1), (26, .ifCond .ne 18, 3), (29, .aload_n 0, 1), (30, .getfield 13, 3), (33, .iload_n 2, 1), (34, .baload, 1), (35, .ifCond .eq 6, 3), (38, .bipush (-2), 2), (40, .ireturn, 1), (41, .bipush (-3), 2), (43, .ireturn, 1), (44, .aload_n 0, 1), (45, .iconst 2, 1), (46, .iload_n 2, 1), (47, .imul, 1), (48, .invokevirtual 61, 3), (51, .istore_n 3, 1), (52, .aload_n 0, 1), (53, .iconst 2, 1), (54, .iload_n 2, 1), (55, .imul, 1), (56, .iconst 1, 1), (57, .iadd, 1), (58, .invokevirtual 61, 3), (61, .istore 4, 2), (63, .aload_n 0, 1), (64, .getfield 16, 3), (67, .iload_n 2, 1), (68, .bipush 16, 2), (70, .imul, 1), (71, .aload_n 0, 1), (72, .getfield 20, 3), (75, .iload_n 2, 1), (76, .iaload, 1), (77, .bipush 15, 2), (79, .iand, 1), (80, .iadd, 1), (81, .iaload, 1), (82, .istore 5, 2), (84, .aload_n 0, 1), (85, .getfield 20, 3), (88, .iload_n 2, 1), (89, .aload_n 0, 1), (90, .getfield 20, 3), (93, .iload_n 2, 1), (94, .iaload, 1), (95, .iconst 1, 1), (96, .iadd, 1), (97, .bipush 15, 2), (99, .iand, 1), (100, .iastore, 1), (101, .aload_n 0, 1), (102, .getfield 23, 3), (105, .iload_n 2, 1), (106, .aload_n 0, 1), (107, .getfield 23, 3), (110, .iload_n 2, 1), (111, .iaload, 1), (112, .iconst 1, 1), (113, .isub, 1), (114, .iastore, 1), (115, .aload_n 0, 1), (116, .iconst 2, 1), (117, .iload_n 2, 1), (118, .imul, 1), (119, .iload_n 3, 1), (120, .invokevirtual 83, 3), (123, .aload_n 0, 1), (124, .iconst 2, 1), (125, .iload_n 2, 1), (126, .imul, 1), (127, .iconst 1, 1), (128, .iadd, 1), (129, .iload 4, 2), (131, .invokevirtual 83, 3), (134, .iload 5, 2), (136, .ireturn, 1)], 6, 2, 33)
def cm18 : Me := ("closeFd", "(I)I", 1, 1, [(0, .aload_n 0, 1), (1, .iload_n 1, 1), (2, .invokevirtual 76, 3), (5, .ifCond .ne 5, 3), (8, .iconst (-1), 1), (9, .ireturn, 1), (10, .iload_n 1, 1), (11, .iconst 1, 1), (12, .ishr, 1), (13, .istore_n 2, 1), (14, .iload_n 1, 1), (15, .iconst 1, 1), (16, .ixor, 1), (17, .istore_n 3, 1), (18, .iconst 0, 1), (19, .istore 4, 2), (21, .aload_n 0, 1), (22, .iload_n 3, 1), (23, .invokevirtual 76, 3), (26, .ifCond .eq 10, 3), (29, .aload_n 0, 1), (30, .iload_n 3, 1), (31, .invokevirtual 61, 3), (34, .istore 4, 2), (36, .iload_n 1, 1), (37, .iconst 1, 1), (38, .iand, 1), (39, .ifCond .ne 13, 3), (42, .aload_n 0, 1), (43, .getfield 7, 3), (46, .iload_n 2, 1), (47, .iconst 0, 1), (48, .bastore, 1), (49, .goto 10, 3), (52, .aload_n 0, 1), (53, .getfield 13, 3), (56, .iload_n 2, 1), (57, .iconst 0, 1), (58, .bastore, 1), (59, .aload_n 0, 1), (60, .iload_n 1, 1), (61, .invokevirtual 87, 3), (64, .aload_n 0, 1), (65, .iload_n 3, 1), (66, .iload 4, 2), (68, .invokevirtual 83, 3), (71, .iconst 0, 1), (72, .ireturn, 1)], 5, 2, 33)
def cm19 : Me := ("ctlAdd", "(III)I", 3, 1, [(0, .aload_n 0, 1), (1, .iload_n 1, 1), (2, .invokevirtual 80, 3), (5, .ifCond .eq 11, 3), (8, .aload_n 0, 1), (9, .iload_n 3, 1), (10, .invokevirtual 90, 3), (13, .ifCond .ne 6, 3), (16, .bipush (-6), 2), (18, .ireturn, 1), (19, .aload_n 0, 1), (20, .iload_n 2, 1), (21, .invokevirtual 76, 3), (24, .ifCond .ne 5, 3), (27, .iconst (-1), 1), (28, .ireturn, 1), (29, .aload_n 0, 1), (30, .iload_n 1, 1), (31, .iload_n 2, 1), (32, .invokevirtual 68, 3), (35, .istore 4, 2), (37, .aload_n 0, 1), (38, .getfield 26, 3), (41, .iload 4, 2), (43, .baload, 1), (44, .ifCond .eq 6, 3), (47, .bipush (-5), 2), (49, .ireturn, 1), (50, .aload_n 0, 1), (51, .getfield 26, 3), (54, .iload 4, 2), (56, .iconst 1, 1), (57, .bastore, 1), (58, .aload_n 0, 1), (59, .iload 4, 2), (61, .iload_n 2, 1), (62, .iload_n 3, 1), (63, .invokevirtual 93, 3), (66, .iconst 0, 1), (67, .ireturn, 1)], 5, 2, 32)
def cm20 : Me := ("ctlMod", "(III)I", 3, 1, [(0, .aload_n 0, 1), (1, .iload_n 1, 1), (2, .invokevirtual 80, 3), (5, .ifCond .eq 11, 3), (8, .aload_n 0, 1), (9, .iload_n 3, 1), (10, .invokevirtual 90, 3), (13, .ifCond .ne 6, 3), (16, .bipush (-6), 2), (18, .ireturn, 1), (19, .aload_n 0, 1), (20, .iload_n 2, 1), (21, .invokevirtual 76, 3), (24, .ifCond .ne 5, 3), (27, .iconst (-1), 1), (28, .ireturn, 1), (29, .aload_n 0, 1), (30, .iload_n 1, 1), (31, .iload_n 2, 1), (32, .invokevirtual 68, 3), (35, .istore 4, 2), (37, .aload_n 0, 1), (38, .getfield 26, 3), (41, .iload 4, 2), (43, .baload, 1), (44, .ifCond .ne 6, 3), (47, .bipush (-7), 2), (49, .ireturn, 1), (50, .aload_n 0, 1), (51, .iload 4, 2), (53, .iload_n 2, 1), (54, .iload_n 3, 1), (55, .invokevirtual 93, 3), (58, .iconst 0, 1), (59, .ireturn, 1)], 5, 2, 32)
def cm21 : Me := ("ctlDel", "(II)I", 2, 1, [(0, .aload_n 0, 1), (1, .iload_n 1, 1), (2, .invokevirtual 80, 3), (5, .ifCond .ne 6, 3), (8, .bipush (-6), 2), (10, .ireturn, 1), (11, .aload_n 0, 1), (12, .iload_n 2, 1), (13, .invokevirtual 76, 3), (16, .ifCond .ne 5, 3), (19, .iconst (-1), 1), (20, .ireturn, 1), (21, .aload_n 0, 1), (22, .iload_n 1, 1), (23, .iload_n 2, 1), (24, .invokevirtual 68, 3), (27, .istore_n 3, 1), (28, .aload_n 0, 1), (29, .getfield 26, 3), (32, .iload_n 3, 1), (33, .baload, 1), (34, .ifCond .ne 6, 3), (37, .bipush (-7), 2), (39, .ireturn, 1), (40, .aload_n 0, 1), (41, .iload_n 3, 1), (42, .invokevirtual 72, 3), (45, .iconst 0, 1), (46, .ireturn, 1)], 4, 1, 14)
def cm22 : Me := ("wait", "(II)I", 2, 1, [(0, .aload_n 0, 1), (1, .iload_n 1, 1), (2, .invokevirtual 80, 3), (5, .ifCond .eq 8, 3), (8, .iload_n 2, 1), (9, .iconst 1, 1), (10, .if_icmp .ge 6, 3), (13, .bipush (-6), 2), (15, .ireturn, 1), (16, .iload_n 2, 1), (17, .bipush 16, 2), (19, .if_icmp .le 8, 3), (22, .bipush 16, 2), (24, .goto 4, 3), (27, .iload_n 2, 1), (28, .istore_n 3, 1), (29, .iconst 0, 1), (30, .istore 4, 2), (32, .iconst 2, 1), (33, .aload_n 0, 1), (34, .getfield 48, 3), (37, .imul, 1), (38, .istore 5, 2), (40, .iconst 0, 1), (41, .istore 6, 2), (43, .iload 6, 2), (45, .iload 5, 2), (47, .if_icmp .ge 82, 3), (50, .iload 4, 2), (52, .iload_n 3, 1), (53, .if_icmp .ge 76, 3), (56, .aload_n 0, 1), (57, .iload_n 1, 1), (58, .iload 6, 2), (60, .invokevirtual 68, 3), (63, .istore 7, 2), (65, .aload_n 0, 1), (66, .getfield 26, 3), (69, .iload 7, 2), (71, .baload, 1), (72, .ifCond .ne 6, 3), (75, .goto 48, 3), (78, .aload_n 0, 1), (79, .iload 7, 2), (81, .iload 6, 2), (83, .invokevirtual 97, 3), (86, .istore 8, 2), (88, .iload 8, 2), (90, .ifCond .ne 6, 3), (93, .goto 30, 3), (96, .aload_n 0, 1), (97, .getfield 38, 3), (100, .iload 4, 2), (102, .iload 6, 2), (104, .iastore, 1), (105, .aload_n 0, 1), (106, .getfield 41, 3), (109, .iload 4, 2), (111, .iload 8, 2), (113, .iastore, 1), (114, .iinc 4 1, 3), (117, .aload_n 0, 1), (118, .iload 7, 2), (120, .invokevirtual 100, 3), (123, .iinc 6 1, 3), (126, .goto (-83), 3), (129, .aload_n 0, 1), (130, .iload 4, 2), (132, .putfield 58, 3), (135, .iload 4, 2), (137, .ireturn, 1)], 9, 2, 29)
def cm23 : Me := ("consume", "(I)V", 1, 0, [(0, .aload_n 0, 1), (1, .getfield 29, 3), (4, .iload_n 1, 1), (5, .iaload, 1), (6, .bipush 32, 2), (8, .iand, 1), (9, .ifCond .eq 20, 3), (12, .aload_n 0, 1), (13, .getfield 32, 3), (16, .iload_n 1, 1), (17, .iconst 0, 1), (18, .bastore, 1), (19, .aload_n 0, 1), (20, .getfield 35, 3), (23, .iload_n 1, 1), (24, .iconst 0, 1), (25, .iastore, 1), (26, .goto 22, 3), (29, .aload_n 0, 1), (30, .getfield 29, 3), (33, .iload_n 1, 1), (34, .iaload, 1), (35, .bipush 16, 2), (37, .iand, 1), (38, .ifCond .eq 10, 3), (41, .aload_n 0, 1), (42, .getfield 35, 3), (45, .iload_n 1, 1), (46, .iconst 0, 1), (47, .iastore, 1), (48, .return_, 1)], 2, 0, 0)
def cm24 : Me := ("eventFd", "(I)I", 1, 1, [(0, .iload_n 1, 1), (1, .ifCond .lt 11, 3), (4, .iload_n 1, 1), (5, .aload_n 0, 1), (6, .getfield 58, 3), (9, .if_icmp .lt 5, 3), (12, .iconst (-1), 1), (13, .ireturn, 1), (14, .aload_n 0, 1), (15, .getfield 38, 3), (18, .iload_n 1, 1), (19, .iaload, 1), (20, .ireturn, 1)], 2, 0, 0)
def cm25 : Me := ("eventMask", "(I)I", 1, 1, [(0, .iload_n 1, 1), (1, .ifCond .lt 11, 3), (4, .iload_n 1, 1), (5, .aload_n 0, 1), (6, .getfield 58, 3), (9, .if_icmp .lt 5, 3), (12, .iconst 0, 1), (13, .ireturn, 1), (14, .aload_n 0, 1), (15, .getfield 41, 3), (18, .iload_n 1, 1), (19, .iaload, 1), (20, .ireturn, 1)], 2, 0, 0)
def cm26 : Me := ("pipeBytes", "(I)I", 1, 1, [(0, .iload_n 1, 1), (1, .ifCond .lt 11, 3), (4, .iload_n 1, 1), (5, .aload_n 0, 1), (6, .getfield 48, 3), (9, .if_icmp .lt 5, 3), (12, .iconst (-1), 1), (13, .ireturn, 1), (14, .aload_n 0, 1), (15, .getfield 7, 3), (18, .iload_n 1, 1), (19, .baload, 1), (20, .ifCond .ne 14, 3), (23, .aload_n 0, 1), (24, .getfield 13, 3), (27, .iload_n 1, 1), (28, .baload, 1), (29, .ifCond .ne 5, 3), (32, .iconst (-1), 1), (33, .ireturn, 1), (34, .aload_n 0, 1), (35, .getfield 23, 3), (38, .iload_n 1, 1), (39, .iaload, 1), (40, .ireturn, 1)], 2, 0, 0)
def cm27 : Me := ("fdReadiness", "(I)I", 1, 1, [(0, .aload_n 0, 1), (1, .iload_n 1, 1), (2, .invokevirtual 76, 3), (5, .ifCond .ne 5, 3), (8, .iconst (-1), 1), (9, .ireturn, 1), (10, .aload_n 0, 1), (11, .iload_n 1, 1), (12, .invokevirtual 61, 3), (15, .ireturn, 1)], 2, 1, 15)
def cm28 : Me := ("regInfo", "(II)I", 2, 1, [(0, .aload_n 0, 1), (1, .iload_n 1, 1), (2, .iload_n 2, 1), (3, .invokevirtual 103, 3), (6, .istore_n 3, 1), (7, .iload_n 3, 1), (8, .ifCond .ge 5, 3), (11, .iconst (-1), 1), (12, .ireturn, 1), (13, .aload_n 0, 1), (14, .getfield 29, 3), (17, .iload_n 3, 1), (18, .iaload, 1), (19, .istore 4, 2), (21, .aload_n 0, 1), (22, .getfield 32, 3), (25, .iload_n 3, 1), (26, .baload, 1), (27, .ifCond .ne 10, 3), (30, .iload 4, 2), (32, .bipush 64, 2), (34, .ior, 1), (35, .istore 4, 2), (37, .iload 4, 2), (39, .ireturn, 1)], 5, 2, 29)
def cm29 : Me := ("peekReady", "(II)I", 2, 1, [(0, .aload_n 0, 1), (1, .iload_n 1, 1), (2, .iload_n 2, 1), (3, .invokevirtual 103, 3), (6, .istore_n 3, 1), (7, .iload_n 3, 1), (8, .ifCond .ge 5, 3), (11, .iconst (-1), 1), (12, .ireturn, 1), (13, .aload_n 0, 1), (14, .iload_n 3, 1), (15, .iload_n 2, 1), (16, .invokevirtual 97, 3), (19, .ireturn, 1)], 4, 2, 29)
def cm30 : Me := ("readyCount", "(I)I", 1, 1, [(0, .aload_n 0, 1), (1, .iload_n 1, 1), (2, .invokevirtual 80, 3), (5, .ifCond .ne 5, 3), (8, .iconst (-1), 1), (9, .ireturn, 1), (10, .iconst 0, 1), (11, .istore_n 2, 1), (12, .iconst 2, 1), (13, .aload_n 0, 1), (14, .getfield 48, 3), (17, .imul, 1), (18, .istore_n 3, 1), (19, .iconst 0, 1), (20, .istore 4, 2), (22, .iload 4, 2), (24, .iload_n 3, 1), (25, .if_icmp .ge 42, 3), (28, .aload_n 0, 1), (29, .iload_n 1, 1), (30, .iload 4, 2), (32, .invokevirtual 68, 3), (35, .istore 5, 2), (37, .aload_n 0, 1), (38, .getfield 26, 3), (41, .iload 5, 2), (43, .baload, 1), (44, .ifCond .eq 17, 3), (47, .aload_n 0, 1), (48, .iload 5, 2), (50, .iload 4, 2), (52, .invokevirtual 97, 3), (55, .ifCond .eq 6, 3), (58, .iinc 2 1, 3), (61, .iinc 4 1, 3), (64, .goto (-42), 3), (67, .iload_n 2, 1), (68, .ireturn, 1)], 6, 2, 29)
def PP : Cl := ("ReadinessPoller", [(17, ("nPipes", "I", 0, false)), (18, ("cap", "I", 0, false)), (19, ("nPolls", "I", 0, false)), (20, ("readOpen", "[Z", 3, false)), (21, ("writeOpen", "[Z", 4, false)), (22, ("buf", "[I", 5, false)), (23, ("head", "[I", 6, false)), (24, ("count", "[I", 7, false)), (25, ("regged", "[Z", 8, false)), (26, ("word", "[I", 9, false)), (27, ("enabled", "[Z", 10, false)), (28, ("pend", "[I", 11, false)), (29, ("resFd", "[I", 12, false)), (30, ("resMask", "[I", 13, false)), (31, ("resN", "I", 0, false))], [(1, 8), (1, 8), (0, 128), (0, 8), (0, 8), (1, 64), (0, 64), (1, 64), (0, 64), (0, 16), (0, 16)], [(7, 20), (13, 21), (16, 22), (20, 23), (23, 24), (26, 25), (29, 26), (32, 27), (35, 28), (38, 29), (41, 30), (48, 17), (52, 18), (55, 19), (58, 31)], [(44, 2), (61, 4), (65, 5), (68, 8), (72, 11), (76, 3), (80, 6), (83, 13), (87, 12), (90, 7), (93, 10), (97, 9), (100, 23), (103, 14)], [], [(0, cm0), (2, cm2), (3, cm3), (4, cm4), (5, cm5), (6, cm6), (7, cm7), (8, cm8), (9, cm9), (10, cm10), (11, cm11), (12, cm12), (13, cm13), (14, cm14), (15, cm15), (16, cm16), (17, cm17), (18, cm18), (19, cm19), (20, cm20), (21, cm21), (22, cm22), (23, cm23), (24, cm24), (25, cm25), (26, cm26), (27, cm27), (28, cm28), (29, cm29), (30, cm30)], 1)
def lm0 : Me := ("law", "([I)Z", 1, 2, [(0, .new 7, 3), (3, .dup, 1), (4, .iconst 2, 1), (5, .iconst 3, 1), (6, .iconst 2, 1), (7, .invokespecial 9, 3), (10, .astore_n 1, 1), (11, .new 7, 3), (14, .dup, 1), (15, .iconst 2, 1), (16, .iconst 3, 1), (17, .iconst 2, 1), (18, .invokespecial 9, 3), (21, .astore_n 2, 1), (22, .iconst 0, 1), (23, .istore_n 3, 1), (24, .iload_n 3, 1), (25, .iconst 3, 1), (26, .iadd, 1), (27, .aload_n 0, 1), (28, .arraylength, 1), (29, .if_icmp .ge 164, 3), (32, .aload_n 0, 1), (33, .iload_n 3, 1), (34, .iaload, 1), (35, .bipush 7, 2), (37, .iand, 1), (38, .istore 4, 2), (40, .aload_n 0, 1), (41, .iload_n 3, 1), (42, .iconst 1, 1), (43, .iadd, 1), (44, .iaload, 1), (45, .sipush 255, 3), (48, .iand, 1), (49, .istore 5, 2), (51, .aload_n 0, 1), (52, .iload_n 3, 1), (53, .iconst 2, 1), (54, .iadd, 1), (55, .iaload, 1), (56, .sipush 255, 3), (59, .iand, 1), (60, .istore 6, 2), (62, .aload_n 0, 1), (63, .iload_n 3, 1), (64, .iconst 3, 1), (65, .iadd, 1), (66, .iaload, 1), (67, .sipush 255, 3), (70, .iand, 1), (71, .istore 7, 2), (73, .iload 5, 2), (75, .iconst 3, 1), (76, .irem, 1), (77, .istore 8, 2), (79, .iload 6, 2), (81, .iconst 5, 1), (82, .irem, 1), (83, .istore 9, 2), (85, .iload 6, 2), (87, .bipush 7, 2), (89, .iand, 1), (90, .istore 10, 2), (92, .iload 7, 2), (94, .iconst 3, 1), (95, .iand, 1), (96, .iload 7, 2), (98, .bipush 12, 2), (100, .iand, 1), (101, .iconst 2, 1), (102, .ishl, 1), (103, .ior, 1), (104, .iload 7, 2), (106, .sipush 248, 3), (109, .if_icmp .lt 8, 3), (112, .bipush 64, 2), (114, .goto 4, 3), (117, .iconst 0, 1), (118, .ior, 1), (119, .istore 11, 2), (121, .aload_n 2, 1), (122, .iload 4, 2), (124, .iload 8, 2), (126, .iload 9, 2), (128, .iload 11, 2), (130, .iload 10, 2), (132, .aload_n 0, 1), (133, .iload_n 3, 1), (134, .iconst 3, 1), (135, .iadd, 1), (136, .iaload, 1), (137, .invokestatic 12, 3), (140, .istore 12, 2), (142, .iload 12, 2), (144, .ifCond .lt 33, 3), (147, .aload_n 1, 1), (148, .iload 4, 2), (150, .iload 8, 2), (152, .iload 9, 2), (154, .iload 11, 2), (156, .iload 10, 2), (158, .aload_n 0, 1), (159, .iload_n 3, 1), (160, .iconst 3, 1), (161, .iadd, 1), (162, .iaload, 1), (163, .invokestatic 12, 3), (166, .istore 13, 2), (168, .iload 13, 2), (170, .iload 12, 2), (172, .if_icmp .eq 5, 3), (175, .iconst 0, 1), (176, .ireturn, 1), (177, .aload_n 1, 1), (178, .aload_n 2, 1), (179, .invokestatic 18, 3), (182, .ifCond .ne 5, 3), (185, .iconst 0, 1), (186, .ireturn, 1), (187, .iinc 3 4, 3), (190, .goto (-166), 3), (193, .iconst 1, 1), (194, .ireturn, 1)], 14, 7, 176)
def lm3 : Me := ("call", "(LReadinessPoller;IIIIII)I", 7, 1, [(0, .iload_n 1, 1), (1, .ifCond .ne 8, 3), (4, .aload_n 0, 1), (5, .invokevirtual 22, 3), (8, .ireturn, 1), (9, .iload_n 1, 1), (10, .iconst 1, 1), (11, .if_icmp .ne 11, 3), (14, .aload_n 0, 1), (15, .iload_n 3, 1), (16, .iload 6, 2), (18, .invokevirtual 26, 3), (21, .ireturn, 1), (22, .iload_n 1, 1), (23, .iconst 2, 1), (24, .if_icmp .ne 9, 3), (27, .aload_n 0, 1), (28, .iload_n 3, 1), (29, .invokevirtual 30, 3), (32, .ireturn, 1), (33, .iload_n 1, 1), (34, .iconst 3, 1), (35, .if_icmp .ne 9, 3), (38, .aload_n 0, 1), (39, .iload_n 3, 1), (40, .invokevirtual 34, 3), (43, .ireturn, 1), (44, .iload_n 1, 1), (45, .iconst 4, 1), (46, .if_icmp .ne 12, 3), (49, .aload_n 0, 1), (50, .iload_n 2, 1), (51, .iload_n 3, 1), (52, .iload 4, 2), (54, .invokevirtual 37, 3), (57, .ireturn, 1), (58, .iload_n 1, 1), (59, .iconst 5, 1), (60, .if_icmp .ne 12, 3), (63, .aload_n 0, 1), (64, .iload_n 2, 1), (65, .iload_n 3, 1), (66, .iload 4, 2), (68, .invokevirtual 41, 3), (71, .ireturn, 1), (72, .iload_n 1, 1), (73, .bipush 6, 2), (75, .if_icmp .ne 10, 3), (78, .aload_n 0, 1), (79, .iload_n 2, 1), (80, .iload_n 3, 1), (81, .invokevirtual 44, 3), (84, .ireturn, 1), (85, .aload_n 0, 1), (86, .iload_n 2, 1), (87, .iload 5, 2), (89, .invokevirtual 47, 3), (92, .ireturn, 1)], 7, 3, 51)
def lm4 : Me := ("same", "(LReadinessPoller;LReadinessPoller;)Z", 2, 2, [(0, .iconst (-1), 1), (1, .istore_n 2, 1), (2, .iload_n 2, 1), (3, .bipush 17, 2), (5, .if_icmp .ge 78, 3), (8, .aload_n 0, 1), (9, .iload_n 2, 1), (10, .invokevirtual 50, 3), (13, .aload_n 1, 1), (14, .iload_n 2, 1), (15, .invokevirtual 50, 3), (18, .if_icmp .ne 29, 3), (21, .aload_n 0, 1), (22, .iload_n 2, 1), (23, .invokevirtual 53, 3), (26, .aload_n 1, 1), (27, .iload_n 2, 1), (28, .invokevirtual 53, 3), (31, .if_icmp .ne 16, 3), (34, .aload_n 0, 1), (35, .iload_n 2, 1), (36, .invokevirtual 56, 3), (39, .aload_n 1, 1), (40, .iload_n 2, 1), (41, .invokevirtual 56, 3), (44, .if_icmp .eq 5, 3), (47, .iconst 0, 1), (48, .ireturn, 1), (49, .aload_n 0, 1), (50, .iload_n 2, 1), (51, .invokevirtual 59, 3), (54, .aload_n 1, 1), (55, .iload_n 2, 1), (56, .invokevirtual 59, 3), (59, .if_icmp .ne 16, 3), (62, .aload_n 0, 1), (63, .iload_n 2, 1), (64, .invokevirtual 62, 3), (67, .aload_n 1, 1), (68, .iload_n 2, 1), (69, .invokevirtual 62, 3), (72, .if_icmp .eq 5, 3), (75, .iconst 0, 1), (76, .ireturn, 1), (77, .iinc 2 1, 3), (80, .goto (-78), 3), (83, .iconst 0, 1), (84, .istore_n 2, 1), (85, .iload_n 2, 1), (86, .bipush 16, 2), (88, .if_icmp .ge 57, 3), (91, .aload_n 0, 1), (92, .iload_n 2, 1), (93, .iconst 2, 1), (94, .ishr, 1), (95, .iload_n 2, 1), (96, .iconst 3, 1), (97, .iand, 1), (98, .invokevirtual 65, 3), (101, .aload_n 1, 1), (102, .iload_n 2, 1), (103, .iconst 2, 1), (104, .ishr, 1), (105, .iload_n 2, 1), (106, .iconst 3, 1), (107, .iand, 1), (108, .invokevirtual 65, 3), (111, .if_icmp .ne 26, 3), (114, .aload_n 0, 1), (115, .iload_n 2, 1), (116, .iconst 2, 1), (117, .ishr, 1), (118, .iload_n 2, 1), (119, .iconst 3, 1), (120, .iand, 1), (121, .invokevirtual 68, 3), (124, .aload_n 1, 1), (125, .iload_n 2, 1), (126, .iconst 2, 1), (127, .ishr, 1), (128, .iload_n 2, 1), (129, .iconst 3, 1), (130, .iand, 1), (131, .invokevirtual 68, 3), (134, .if_icmp .eq 5, 3), (137, .iconst 0, 1), (138, .ireturn, 1), (139, .iinc 2 1, 3), (142, .goto (-57), 3), (145, .iconst 1, 1), (146, .ireturn, 1)], 3, 3, 47)
def QQ : Lw := ("ReadinessPollerL7", [(12, 3), (18, 4)], [(22, 15), (26, 16), (30, 17), (34, 18), (37, 19), (41, 20), (44, 21), (47, 22), (50, 26), (53, 27), (56, 30), (59, 24), (62, 25), (65, 28), (68, 29)], 9, 7, 15, [], [(0, lm0), (3, lm3), (4, lm4)], 56, 1920)
set_option maxRecDepth 100000
theorem dk_c0 : chk prog_1_method_1_code cm0.cd = true := by decide +kernel
theorem dk_c2 : chk prog_1_method_2_code cm2.cd = true := by decide +kernel
theorem dk_l3 : chk method_3_code lm3.cd = true := by decide +kernel
theorem dk_c18 : chk prog_1_method_18_code cm18.cd = true := by decide +kernel
theorem dk_c3 : chk prog_1_method_3_code cm3.cd = true := by decide +kernel
theorem dk_l4 : chk method_4_code lm4.cd = true := by decide +kernel
theorem dk_c26 : chk prog_1_method_26_code cm26.cd = true := by decide +kernel
theorem dk_c27 : chk prog_1_method_27_code cm27.cd = true := by decide +kernel
theorem dk_c30 : chk prog_1_method_30_code cm30.cd = true := by decide +kernel
theorem dk_c6 : chk prog_1_method_6_code cm6.cd = true := by decide +kernel
theorem dk_c24 : chk prog_1_method_24_code cm24.cd = true := by decide +kernel
theorem dk_c25 : chk prog_1_method_25_code cm25.cd = true := by decide +kernel
theorem dk_c8 : chk prog_1_method_8_code cm8.cd = true := by decide +kernel
theorem dk_c28 : chk prog_1_method_28_code cm28.cd = true := by decide +kernel
theorem dk_c14 : chk prog_1_method_14_code cm14.cd = true := by decide +kernel
theorem dk_c29 : chk prog_1_method_29_code cm29.cd = true := by decide +kernel
theorem dk_c16 : chk prog_1_method_16_code cm16.cd = true := by decide +kernel
theorem dk_c15 : chk prog_1_method_15_code cm15.cd = true := by decide +kernel
theorem dk_c4 : chk prog_1_method_4_code cm4.cd = true := by decide +kernel
theorem dk_c12 : chk prog_1_method_12_code cm12.cd = true := by decide +kernel
theorem dk_c11 : chk prog_1_method_11_code cm11.cd = true := by decide +kernel
theorem dk_c13 : chk prog_1_method_13_code cm13.cd = true := by decide +kernel
theorem dk_c17 : chk prog_1_method_17_code cm17.cd = true := by decide +kernel
theorem dk_c21 : chk prog_1_method_21_code cm21.cd = true := by decide +kernel
theorem dk_c22 : chk prog_1_method_22_code cm22.cd = true := by decide +kernel
theorem dk_c20 : chk prog_1_method_20_code cm20.cd = true := by decide +kernel
theorem dk_c19 : chk prog_1_method_19_code cm19.cd = true := by decide +kernel
theorem dk_c7 : chk prog_1_method_7_code cm7.cd = true := by decide +kernel
theorem dk_c10 : chk prog_1_method_10_code cm10.cd = true := by decide +kernel
theorem dk_c9 : chk prog_1_method_9_code cm9.cd = true := by decide +kernel
theorem dk_c5 : chk prog_1_method_5_code cm5.cd = true := by decide +kernel
theorem dk_c23 : chk prog_1_method_23_code cm23.cd = true := by decide +kernel
theorem dk_l0 : chk code lm0.cd = true := by decide +kernel
theorem pk_c0 : parseMethodDescriptor "(III)V" = some ⟨[.int, .int, .int], none⟩ := by decide +kernel
theorem pk_c2 : parseMethodDescriptor "(III)I" = some ⟨[.int, .int, .int], some .int⟩ := by decide +kernel
theorem pk_l3 : parseMethodDescriptor "(LReadinessPoller;IIIIII)I" = some ⟨[.object "ReadinessPoller", .int, .int, .int, .int, .int, .int], some .int⟩ := by decide +kernel
theorem pk_c18 : parseMethodDescriptor "(I)I" = some ⟨[.int], some .int⟩ := by decide +kernel
theorem pk_c3 : parseMethodDescriptor "(I)Z" = some ⟨[.int], some .boolean⟩ := by decide +kernel
theorem pk_l4 : parseMethodDescriptor "(LReadinessPoller;LReadinessPoller;)Z" = some ⟨[.object "ReadinessPoller", .object "ReadinessPoller"], some .boolean⟩ := by decide +kernel
theorem pk_c26 : parseMethodDescriptor "(I)I" = some ⟨[.int], some .int⟩ := by decide +kernel
theorem pk_c27 : parseMethodDescriptor "(I)I" = some ⟨[.int], some .int⟩ := by decide +kernel
theorem pk_c30 : parseMethodDescriptor "(I)I" = some ⟨[.int], some .int⟩ := by decide +kernel
theorem pk_c6 : parseMethodDescriptor "(I)Z" = some ⟨[.int], some .boolean⟩ := by decide +kernel
theorem pk_c24 : parseMethodDescriptor "(I)I" = some ⟨[.int], some .int⟩ := by decide +kernel
theorem pk_c25 : parseMethodDescriptor "(I)I" = some ⟨[.int], some .int⟩ := by decide +kernel
theorem pk_c8 : parseMethodDescriptor "(II)I" = some ⟨[.int, .int], some .int⟩ := by decide +kernel
theorem pk_c28 : parseMethodDescriptor "(II)I" = some ⟨[.int, .int], some .int⟩ := by decide +kernel
theorem pk_c14 : parseMethodDescriptor "(II)I" = some ⟨[.int, .int], some .int⟩ := by decide +kernel
theorem pk_c29 : parseMethodDescriptor "(II)I" = some ⟨[.int, .int], some .int⟩ := by decide +kernel
theorem pk_c16 : parseMethodDescriptor "(II)I" = some ⟨[.int, .int], some .int⟩ := by decide +kernel
theorem pk_c15 : parseMethodDescriptor "()I" = some ⟨[], some .int⟩ := by decide +kernel
theorem pk_c4 : parseMethodDescriptor "(I)I" = some ⟨[.int], some .int⟩ := by decide +kernel
theorem pk_c12 : parseMethodDescriptor "(I)V" = some ⟨[.int], none⟩ := by decide +kernel
theorem pk_c11 : parseMethodDescriptor "(I)V" = some ⟨[.int], none⟩ := by decide +kernel
theorem pk_c13 : parseMethodDescriptor "(II)V" = some ⟨[.int, .int], none⟩ := by decide +kernel
theorem pk_c17 : parseMethodDescriptor "(I)I" = some ⟨[.int], some .int⟩ := by decide +kernel
theorem pk_c21 : parseMethodDescriptor "(II)I" = some ⟨[.int, .int], some .int⟩ := by decide +kernel
theorem pk_c22 : parseMethodDescriptor "(II)I" = some ⟨[.int, .int], some .int⟩ := by decide +kernel
theorem pk_c20 : parseMethodDescriptor "(III)I" = some ⟨[.int, .int, .int], some .int⟩ := by decide +kernel
theorem pk_c19 : parseMethodDescriptor "(III)I" = some ⟨[.int, .int, .int], some .int⟩ := by decide +kernel
theorem pk_c7 : parseMethodDescriptor "(I)Z" = some ⟨[.int], some .boolean⟩ := by decide +kernel
theorem pk_c10 : parseMethodDescriptor "(III)V" = some ⟨[.int, .int, .int], none⟩ := by decide +kernel
theorem pk_c9 : parseMethodDescriptor "(II)I" = some ⟨[.int, .int], some .int⟩ := by decide +kernel
theorem pk_c5 : parseMethodDescriptor "(I)I" = some ⟨[.int], some .int⟩ := by decide +kernel
theorem pk_c23 : parseMethodDescriptor "(I)V" = some ⟨[.int], none⟩ := by decide +kernel
theorem lkC (Z : State) (a0 : Array Value) (hw : ∀ d ∈ tables_1, d.before a0 Z = true) : LinkC PP Z a0 :=
  ⟨⟨⟨15, (hw _ (List.mem_of_getElem? (i := 1) rfl))⟩, (hw _ (List.mem_of_getElem? (i := 2) rfl))⟩,
   asc_all (⟨by intro z h; obtain rfl : ("readOpen", "[Z", 3, false) = z := Option.some.inj h; exact (hw _ (List.mem_of_getElem? (i := 10) rfl)), by intro z h; obtain rfl : ("writeOpen", "[Z", 4, false) = z := Option.some.inj h; exact (hw _ (List.mem_of_getElem? (i := 12) rfl)), by intro z h; obtain rfl : ("buf", "[I", 5, false) = z := Option.some.inj h; exact (hw _ (List.mem_of_getElem? (i := 15) rfl)), by intro z h; obtain rfl : ("head", "[I", 6, false) = z := Option.some.inj h; exact (hw _ (List.mem_of_getElem? (i := 17) rfl)), by intro z h; obtain rfl : ("count", "[I", 7, false) = z := Option.some.inj h; exact (hw _ (List.mem_of_getElem? (i := 19) rfl)), by intro z h; obtain rfl : ("regged", "[Z", 8, false) = z := Option.some.inj h; exact (hw _ (List.mem_of_getElem? (i := 21) rfl)), by intro z h; obtain rfl : ("word", "[I", 9, false) = z := Option.some.inj h; exact (hw _ (List.mem_of_getElem? (i := 23) rfl)), by intro z h; obtain rfl : ("enabled", "[Z", 10, false) = z := Option.some.inj h; exact (hw _ (List.mem_of_getElem? (i := 25) rfl)), by intro z h; obtain rfl : ("pend", "[I", 11, false) = z := Option.some.inj h; exact (hw _ (List.mem_of_getElem? (i := 27) rfl)), by intro z h; obtain rfl : ("resFd", "[I", 12, false) = z := Option.some.inj h; exact (hw _ (List.mem_of_getElem? (i := 29) rfl)), by intro z h; obtain rfl : ("resMask", "[I", 13, false) = z := Option.some.inj h; exact (hw _ (List.mem_of_getElem? (i := 31) rfl)), by intro z h; obtain rfl : ("nPipes", "I", 0, false) = z := Option.some.inj h; exact (hw _ (List.mem_of_getElem? (i := 37) rfl)), by intro z h; obtain rfl : ("cap", "I", 0, false) = z := Option.some.inj h; exact (hw _ (List.mem_of_getElem? (i := 39) rfl)), by intro z h; obtain rfl : ("nPolls", "I", 0, false) = z := Option.some.inj h; exact (hw _ (List.mem_of_getElem? (i := 41) rfl)), by intro z h; obtain rfl : ("resN", "I", 0, false) = z := Option.some.inj h; exact (hw _ (List.mem_of_getElem? (i := 43) rfl)), trivial⟩),
   asc_all (⟨(hw _ (List.mem_of_getElem? (i := 38) rfl)), (hw _ (List.mem_of_getElem? (i := 40) rfl)), (hw _ (List.mem_of_getElem? (i := 42) rfl)), (hw _ (List.mem_of_getElem? (i := 11) rfl)), (hw _ (List.mem_of_getElem? (i := 13) rfl)), (hw _ (List.mem_of_getElem? (i := 16) rfl)), (hw _ (List.mem_of_getElem? (i := 18) rfl)), (hw _ (List.mem_of_getElem? (i := 20) rfl)), (hw _ (List.mem_of_getElem? (i := 22) rfl)), (hw _ (List.mem_of_getElem? (i := 24) rfl)), (hw _ (List.mem_of_getElem? (i := 26) rfl)), (hw _ (List.mem_of_getElem? (i := 28) rfl)), (hw _ (List.mem_of_getElem? (i := 30) rfl)), (hw _ (List.mem_of_getElem? (i := 32) rfl)), (hw _ (List.mem_of_getElem? (i := 44) rfl)), trivial⟩),
   asc_all (⟨(by decide +kernel), (by decide +kernel), (by decide +kernel), (by decide +kernel), (by decide +kernel), (by decide +kernel), (by decide +kernel), (by decide +kernel), (by decide +kernel), (by decide +kernel), (by decide +kernel), (by decide +kernel), (by decide +kernel), (by decide +kernel), (by decide +kernel), trivial⟩),
   dst_ok (by decide +kernel),
   lst_all (⟨⟨by decide, (hw _ (List.mem_of_getElem? (i := 9) rfl))⟩, ⟨by decide, (hw _ (List.mem_of_getElem? (i := 9) rfl))⟩, ⟨by decide, (hw _ (List.mem_of_getElem? (i := 14) rfl))⟩, ⟨by decide, (hw _ (List.mem_of_getElem? (i := 14) rfl))⟩, ⟨by decide, (hw _ (List.mem_of_getElem? (i := 14) rfl))⟩, ⟨by decide, (hw _ (List.mem_of_getElem? (i := 9) rfl))⟩, ⟨by decide, (hw _ (List.mem_of_getElem? (i := 14) rfl))⟩, ⟨by decide, (hw _ (List.mem_of_getElem? (i := 9) rfl))⟩, ⟨by decide, (hw _ (List.mem_of_getElem? (i := 14) rfl))⟩, ⟨by decide, (hw _ (List.mem_of_getElem? (i := 14) rfl))⟩, ⟨by decide, (hw _ (List.mem_of_getElem? (i := 14) rfl))⟩, trivial⟩),
   asc_all (trivial),
   ⟨(hw _ (List.mem_of_getElem? (i := 6) rfl)), (hw _ (List.mem_of_getElem? (i := 7) rfl)), (hw _ (List.mem_of_getElem? (i := 8) rfl))⟩,
   asc_all (⟨⟨prog_1_method_1_code, [.int, .int, .int], (hw _ (List.mem_of_getElem? (i := 5) rfl)), chk_ok dk_c0, pk_c0, rfl⟩, ⟨prog_1_method_2_code, [.int, .int, .int], (hw _ (List.mem_of_getElem? (i := 36) rfl)), chk_ok dk_c2, pk_c2, rfl⟩, ⟨prog_1_method_3_code, [.int], (hw _ (List.mem_of_getElem? (i := 57) rfl)), chk_ok dk_c3, pk_c3, rfl⟩, ⟨prog_1_method_4_code, [.int], (hw _ (List.mem_of_getElem? (i := 121) rfl)), chk_ok dk_c4, pk_c4, rfl⟩, ⟨prog_1_method_5_code, [.int], (hw _ (List.mem_of_getElem? (i := 174) rfl)), chk_ok dk_c5, pk_c5, rfl⟩, ⟨prog_1_method_6_code, [.int], (hw _ (List.mem_of_getElem? (i := 79) rfl)), chk_ok dk_c6, pk_c6, rfl⟩, ⟨prog_1_method_7_code, [.int], (hw _ (List.mem_of_getElem? (i := 162) rfl)), chk_ok dk_c7, pk_c7, rfl⟩, ⟨prog_1_method_8_code, [.int, .int], (hw _ (List.mem_of_getElem? (i := 93) rfl)), chk_ok dk_c8, pk_c8, rfl⟩, ⟨prog_1_method_9_code, [.int, .int], (hw _ (List.mem_of_getElem? (i := 170) rfl)), chk_ok dk_c9, pk_c9, rfl⟩, ⟨prog_1_method_10_code, [.int, .int, .int], (hw _ (List.mem_of_getElem? (i := 166) rfl)), chk_ok dk_c10, pk_c10, rfl⟩, ⟨prog_1_method_11_code, [.int], (hw _ (List.mem_of_getElem? (i := 129) rfl)), chk_ok dk_c11, pk_c11, rfl⟩, ⟨prog_1_method_12_code, [.int], (hw _ (List.mem_of_getElem? (i := 125) rfl)), chk_ok dk_c12, pk_c12, rfl⟩, ⟨prog_1_method_13_code, [.int, .int], (hw _ (List.mem_of_getElem? (i := 133) rfl)), chk_ok dk_c13, pk_c13, rfl⟩, ⟨prog_1_method_14_code, [.int, .int], (hw _ (List.mem_of_getElem? (i := 102) rfl)), chk_ok dk_c14, pk_c14, rfl⟩, ⟨prog_1_method_15_code, [], (hw _ (List.mem_of_getElem? (i := 117) rfl)), chk_ok dk_c15, pk_c15, rfl⟩, ⟨prog_1_method_16_code, [.int, .int], (hw _ (List.mem_of_getElem? (i := 112) rfl)), chk_ok dk_c16, pk_c16, rfl⟩, ⟨prog_1_method_17_code, [.int], (hw _ (List.mem_of_getElem? (i := 138) rfl)), chk_ok dk_c17, pk_c17, rfl⟩, ⟨prog_1_method_18_code, [.int], (hw _ (List.mem_of_getElem? (i := 53) rfl)), chk_ok dk_c18, pk_c18, rfl⟩, ⟨prog_1_method_19_code, [.int, .int, .int], (hw _ (List.mem_of_getElem? (i := 158) rfl)), chk_ok dk_c19, pk_c19, rfl⟩, ⟨prog_1_method_20_code, [.int, .int, .int], (hw _ (List.mem_of_getElem? (i := 153) rfl)), chk_ok dk_c20, pk_c20, rfl⟩, ⟨prog_1_method_21_code, [.int, .int], (hw _ (List.mem_of_getElem? (i := 143) rfl)), chk_ok dk_c21, pk_c21, rfl⟩, ⟨prog_1_method_22_code, [.int, .int], (hw _ (List.mem_of_getElem? (i := 148) rfl)), chk_ok dk_c22, pk_c22, rfl⟩, ⟨prog_1_method_23_code, [.int], (hw _ (List.mem_of_getElem? (i := 178) rfl)), chk_ok dk_c23, pk_c23, rfl⟩, ⟨prog_1_method_24_code, [.int], (hw _ (List.mem_of_getElem? (i := 84) rfl)), chk_ok dk_c24, pk_c24, rfl⟩, ⟨prog_1_method_25_code, [.int], (hw _ (List.mem_of_getElem? (i := 89) rfl)), chk_ok dk_c25, pk_c25, rfl⟩, ⟨prog_1_method_26_code, [.int], (hw _ (List.mem_of_getElem? (i := 65) rfl)), chk_ok dk_c26, pk_c26, rfl⟩, ⟨prog_1_method_27_code, [.int], (hw _ (List.mem_of_getElem? (i := 70) rfl)), chk_ok dk_c27, pk_c27, rfl⟩, ⟨prog_1_method_28_code, [.int, .int], (hw _ (List.mem_of_getElem? (i := 98) rfl)), chk_ok dk_c28, pk_c28, rfl⟩, ⟨prog_1_method_29_code, [.int, .int], (hw _ (List.mem_of_getElem? (i := 107) rfl)), chk_ok dk_c29, pk_c29, rfl⟩, ⟨prog_1_method_30_code, [.int], (hw _ (List.mem_of_getElem? (i := 75) rfl)), chk_ok dk_c30, pk_c30, rfl⟩, trivial⟩),
   asc_all (⟨by intro z h; obtain rfl : cm2 = z := Option.some.inj h; exact ⟨(hw _ (List.mem_of_getElem? (i := 33) rfl)), (hw _ (List.mem_of_getElem? (i := 34) rfl)), Or.inl (hw _ (List.mem_of_getElem? (i := 35) rfl))⟩, by intro z h; obtain rfl : cm4 = z := Option.some.inj h; exact ⟨(hw _ (List.mem_of_getElem? (i := 118) rfl)), (hw _ (List.mem_of_getElem? (i := 119) rfl)), Or.inl (hw _ (List.mem_of_getElem? (i := 120) rfl))⟩, by intro z h; obtain rfl : cm5 = z := Option.some.inj h; exact ⟨(hw _ (List.mem_of_getElem? (i := 171) rfl)), (hw _ (List.mem_of_getElem? (i := 172) rfl)), Or.inl (hw _ (List.mem_of_getElem? (i := 173) rfl))⟩, by intro z h; obtain rfl : cm8 = z := Option.some.inj h; exact ⟨(hw _ (List.mem_of_getElem? (i := 90) rfl)), (hw _ (List.mem_of_getElem? (i := 91) rfl)), Or.inl (hw _ (List.mem_of_getElem? (i := 92) rfl))⟩, by intro z h; obtain rfl : cm11 = z := Option.some.inj h; exact ⟨(hw _ (List.mem_of_getElem? (i := 126) rfl)), (hw _ (List.mem_of_getElem? (i := 127) rfl)), Or.inl (hw _ (List.mem_of_getElem? (i := 128) rfl))⟩, by intro z h; obtain rfl : cm3 = z := Option.some.inj h; exact ⟨(hw _ (List.mem_of_getElem? (i := 54) rfl)), (hw _ (List.mem_of_getElem? (i := 55) rfl)), Or.inl (hw _ (List.mem_of_getElem? (i := 56) rfl))⟩, by intro z h; obtain rfl : cm6 = z := Option.some.inj h; exact ⟨(hw _ (List.mem_of_getElem? (i := 76) rfl)), (hw _ (List.mem_of_getElem? (i := 77) rfl)), Or.inl (hw _ (List.mem_of_getElem? (i := 78) rfl))⟩, by intro z h; obtain rfl : cm13 = z := Option.some.inj h; exact ⟨(hw _ (List.mem_of_getElem? (i := 130) rfl)), (hw _ (List.mem_of_getElem? (i := 131) rfl)), Or.inl (hw _ (List.mem_of_getElem? (i := 132) rfl))⟩, by intro z h; obtain rfl : cm12 = z := Option.some.inj h; exact ⟨(hw _ (List.mem_of_getElem? (i := 122) rfl)), (hw _ (List.mem_of_getElem? (i := 123) rfl)), Or.inl (hw _ (List.mem_of_getElem? (i := 124) rfl))⟩, by intro z h; obtain rfl : cm7 = z := Option.some.inj h; exact ⟨(hw _ (List.mem_of_getElem? (i := 159) rfl)), (hw _ (List.mem_of_getElem? (i := 160) rfl)), Or.inl (hw _ (List.mem_of_getElem? (i := 161) rfl))⟩, by intro z h; obtain rfl : cm10 = z := Option.some.inj h; exact ⟨(hw _ (List.mem_of_getElem? (i := 163) rfl)), (hw _ (List.mem_of_getElem? (i := 164) rfl)), Or.inl (hw _ (List.mem_of_getElem? (i := 165) rfl))⟩, by intro z h; obtain rfl : cm9 = z := Option.some.inj h; exact ⟨(hw _ (List.mem_of_getElem? (i := 167) rfl)), (hw _ (List.mem_of_getElem? (i := 168) rfl)), Or.inl (hw _ (List.mem_of_getElem? (i := 169) rfl))⟩, by intro z h; obtain rfl : cm23 = z := Option.some.inj h; exact ⟨(hw _ (List.mem_of_getElem? (i := 175) rfl)), (hw _ (List.mem_of_getElem? (i := 176) rfl)), Or.inl (hw _ (List.mem_of_getElem? (i := 177) rfl))⟩, by intro z h; obtain rfl : cm14 = z := Option.some.inj h; exact ⟨(hw _ (List.mem_of_getElem? (i := 99) rfl)), (hw _ (List.mem_of_getElem? (i := 100) rfl)), Or.inl (hw _ (List.mem_of_getElem? (i := 101) rfl))⟩, trivial⟩),
   (by first | (simp [plainName, overriddenIn]; done) | decide +kernel),
   (by decide),
   (by intro me h; obtain rfl : cm0 = me := Option.some.inj h; rfl)⟩
theorem lkL (Z : State) (a0 : Array Value) (hw : ∀ d ∈ tables_1, d.before a0 Z = true) : LinkL PP QQ Z a0 :=
  ⟨⟨(hw _ (List.mem_of_getElem? (i := 0) rfl)), (hw _ (List.mem_of_getElem? (i := 1) rfl))⟩,
   (by intro me h; obtain rfl : cm0 = me := Option.some.inj h; exact ⟨(hw _ (List.mem_of_getElem? (i := 3) rfl)), (hw _ (List.mem_of_getElem? (i := 4) rfl)), rfl⟩),
   asc_all (⟨by intro z h; obtain rfl : cm15 = z := Option.some.inj h; exact ⟨(hw _ (List.mem_of_getElem? (i := 113) rfl)), (hw _ (List.mem_of_getElem? (i := 114) rfl)), (hw _ (List.mem_of_getElem? (i := 115) rfl)), (hw _ (List.mem_of_getElem? (i := 116) rfl))⟩, by intro z h; obtain rfl : cm16 = z := Option.some.inj h; exact ⟨(hw _ (List.mem_of_getElem? (i := 108) rfl)), (hw _ (List.mem_of_getElem? (i := 109) rfl)), (hw _ (List.mem_of_getElem? (i := 110) rfl)), (hw _ (List.mem_of_getElem? (i := 111) rfl))⟩, by intro z h; obtain rfl : cm17 = z := Option.some.inj h; exact ⟨(hw _ (List.mem_of_getElem? (i := 134) rfl)), (hw _ (List.mem_of_getElem? (i := 135) rfl)), (hw _ (List.mem_of_getElem? (i := 136) rfl)), (hw _ (List.mem_of_getElem? (i := 137) rfl))⟩, by intro z h; obtain rfl : cm18 = z := Option.some.inj h; exact ⟨(hw _ (List.mem_of_getElem? (i := 49) rfl)), (hw _ (List.mem_of_getElem? (i := 50) rfl)), (hw _ (List.mem_of_getElem? (i := 51) rfl)), (hw _ (List.mem_of_getElem? (i := 52) rfl))⟩, by intro z h; obtain rfl : cm19 = z := Option.some.inj h; exact ⟨(hw _ (List.mem_of_getElem? (i := 154) rfl)), (hw _ (List.mem_of_getElem? (i := 155) rfl)), (hw _ (List.mem_of_getElem? (i := 156) rfl)), (hw _ (List.mem_of_getElem? (i := 157) rfl))⟩, by intro z h; obtain rfl : cm20 = z := Option.some.inj h; exact ⟨(hw _ (List.mem_of_getElem? (i := 149) rfl)), (hw _ (List.mem_of_getElem? (i := 150) rfl)), (hw _ (List.mem_of_getElem? (i := 151) rfl)), (hw _ (List.mem_of_getElem? (i := 152) rfl))⟩, by intro z h; obtain rfl : cm21 = z := Option.some.inj h; exact ⟨(hw _ (List.mem_of_getElem? (i := 139) rfl)), (hw _ (List.mem_of_getElem? (i := 140) rfl)), (hw _ (List.mem_of_getElem? (i := 141) rfl)), (hw _ (List.mem_of_getElem? (i := 142) rfl))⟩, by intro z h; obtain rfl : cm22 = z := Option.some.inj h; exact ⟨(hw _ (List.mem_of_getElem? (i := 144) rfl)), (hw _ (List.mem_of_getElem? (i := 145) rfl)), (hw _ (List.mem_of_getElem? (i := 146) rfl)), (hw _ (List.mem_of_getElem? (i := 147) rfl))⟩, by intro z h; obtain rfl : cm26 = z := Option.some.inj h; exact ⟨(hw _ (List.mem_of_getElem? (i := 61) rfl)), (hw _ (List.mem_of_getElem? (i := 62) rfl)), (hw _ (List.mem_of_getElem? (i := 63) rfl)), (hw _ (List.mem_of_getElem? (i := 64) rfl))⟩, by intro z h; obtain rfl : cm27 = z := Option.some.inj h; exact ⟨(hw _ (List.mem_of_getElem? (i := 66) rfl)), (hw _ (List.mem_of_getElem? (i := 67) rfl)), (hw _ (List.mem_of_getElem? (i := 68) rfl)), (hw _ (List.mem_of_getElem? (i := 69) rfl))⟩, by intro z h; obtain rfl : cm30 = z := Option.some.inj h; exact ⟨(hw _ (List.mem_of_getElem? (i := 71) rfl)), (hw _ (List.mem_of_getElem? (i := 72) rfl)), (hw _ (List.mem_of_getElem? (i := 73) rfl)), (hw _ (List.mem_of_getElem? (i := 74) rfl))⟩, by intro z h; obtain rfl : cm24 = z := Option.some.inj h; exact ⟨(hw _ (List.mem_of_getElem? (i := 80) rfl)), (hw _ (List.mem_of_getElem? (i := 81) rfl)), (hw _ (List.mem_of_getElem? (i := 82) rfl)), (hw _ (List.mem_of_getElem? (i := 83) rfl))⟩, by intro z h; obtain rfl : cm25 = z := Option.some.inj h; exact ⟨(hw _ (List.mem_of_getElem? (i := 85) rfl)), (hw _ (List.mem_of_getElem? (i := 86) rfl)), (hw _ (List.mem_of_getElem? (i := 87) rfl)), (hw _ (List.mem_of_getElem? (i := 88) rfl))⟩, by intro z h; obtain rfl : cm28 = z := Option.some.inj h; exact ⟨(hw _ (List.mem_of_getElem? (i := 94) rfl)), (hw _ (List.mem_of_getElem? (i := 95) rfl)), (hw _ (List.mem_of_getElem? (i := 96) rfl)), (hw _ (List.mem_of_getElem? (i := 97) rfl))⟩, by intro z h; obtain rfl : cm29 = z := Option.some.inj h; exact ⟨(hw _ (List.mem_of_getElem? (i := 103) rfl)), (hw _ (List.mem_of_getElem? (i := 104) rfl)), (hw _ (List.mem_of_getElem? (i := 105) rfl)), (hw _ (List.mem_of_getElem? (i := 106) rfl))⟩, trivial⟩),
   asc_all (⟨by intro z h; obtain rfl : lm3 = z := Option.some.inj h; exact ⟨(hw _ (List.mem_of_getElem? (i := 45) rfl)), (hw _ (List.mem_of_getElem? (i := 46) rfl)), (hw _ (List.mem_of_getElem? (i := 47) rfl))⟩, by intro z h; obtain rfl : lm4 = z := Option.some.inj h; exact ⟨(hw _ (List.mem_of_getElem? (i := 58) rfl)), (hw _ (List.mem_of_getElem? (i := 59) rfl)), (hw _ (List.mem_of_getElem? (i := 47) rfl))⟩, trivial⟩),
   asc_all (trivial),
   asc_all (⟨fun h => absurd rfl h, fun _ => ⟨method_3_code, [.object "ReadinessPoller", .int, .int, .int, .int, .int, .int], (hw _ (List.mem_of_getElem? (i := 48) rfl)), chk_ok dk_l3, pk_l3, rfl⟩, fun _ => ⟨method_4_code, [.object "ReadinessPoller", .object "ReadinessPoller"], (hw _ (List.mem_of_getElem? (i := 60) rfl)), chk_ok dk_l4, pk_l4, rfl⟩, trivial⟩),
   (by first | (simp [plainName, overriddenIn]; done) | decide +kernel),
   (by decide)⟩
theorem c2_in (a1 : Int32) (a2 : Int32) (a3 : Int32) (s : St) (Q : Int32 → St → Prop) (h : ((a1 < a2) → Q a2 s) ∧ (¬ (a1 < a2) → ((a3 < a1) → Q a3 s) ∧ (¬ (a3 < a1) → Q a1 s))) : calI PP 2 11 [.ref 0, .int a1, .int a2, .int a3] s Q := by
  refine cal_of (me := cm2) (ls := [some (.ref 0), some (.int a1), some (.int a2), some (.int a3)]) rfl (Nat.le_of_ble_eq_true rfl) rfl ?_
  refine wpc_sl (n := 2) (c' := 11) (pc' := 2) (ls' := [some (.ref 0), some (.int a1), some (.int a2), some (.int a3)]) (st' := [.int a2, .int a1]) (s' := s) rfl ?_
  refine wpc_icmp (a := 7) (b := 5) rfl (by decide) rfl rfl (wpc_br (p := a1 < a2) ⟨fun hc51 => ?_, fun hc51 => ?_⟩)
  · have h52 := h.1 hc51
    refine wpc_sl (n := 1) (c' := 11) (pc' := 6) (ls' := [some (.ref 0), some (.int a1), some (.int a2), some (.int a3)]) (st' := [.int a2]) (s' := s) rfl ?_
    exact wpc_ret rfl rfl (fun q => absurd q (by decide)) rfl ⟨a2, rfl, h52⟩
  · have h53 := h.2 hc51
    refine wpc_sl (n := 2) (c' := 11) (pc' := 9) (ls' := [some (.ref 0), some (.int a1), some (.int a2), some (.int a3)]) (st' := [.int a3, .int a1]) (s' := s) rfl ?_
    refine wpc_icmp (a := 14) (b := 12) rfl (by decide) rfl rfl (wpc_br (p := a3 < a1) ⟨fun hc54 => ?_, fun hc54 => ?_⟩)
    · have h55 := h53.1 hc54
      refine wpc_sl (n := 1) (c' := 11) (pc' := 13) (ls' := [some (.ref 0), some (.int a1), some (.int a2), some (.int a3)]) (st' := [.int a3]) (s' := s) rfl ?_
      exact wpc_ret rfl rfl (fun q => absurd q (by decide)) rfl ⟨a3, rfl, h55⟩
    · have h56 := h53.2 hc54
      refine wpc_sl (n := 1) (c' := 11) (pc' := 15) (ls' := [some (.ref 0), some (.int a1), some (.int a2), some (.int a3)]) (st' := [.int a1]) (s' := s) rfl ?_
      exact wpc_ret rfl rfl (fun q => absurd q (by decide)) rfl ⟨a1, rfl, h56⟩
theorem c0_in (a1 : Int32) (a2 : Int32) (a3 : Int32) (s : St) (Q : St → Prop) (h : calI PP 2 11 [.ref 0, .int a1, .int (1 : Int32), .int (8 : Int32)] s (fun v43 s42 => calI PP 2 11 [.ref 0, .int a2, .int (1 : Int32), .int (16 : Int32)] (sI s42 0 17 v43) (fun v46 s45 => calI PP 2 11 [.ref 0, .int a3, .int (1 : Int32), .int (4 : Int32)] (sI s45 0 18 v46) (fun v49 s48 => Q (sI (sI s48 0 19 v49) 0 31 (0 : Int32)))))) : calV PP 0 0 [.ref 0, .int a1, .int a2, .int a3] s Q := by
  refine cal_of (me := cm0) (ls := [some (.ref 0), some (.int a1), some (.int a2), some (.int a3)]) rfl (Nat.le_of_ble_eq_true rfl) rfl ?_
  refine wpc_sl (n := 40) (c' := 11) (pc' := 99) (ls' := [some (.ref 0), some (.int a1), some (.int a2), some (.int a3)]) (st' := [.int (8 : Int32), .int (1 : Int32), .int a1, .ref 0, .ref 0]) (s' := s) rfl ?_
  refine wpc_callI (m' := 2) (me' := cm2) (as := [.int a1, .int (1 : Int32), .int (8 : Int32)]) (r := [.ref 0]) rfl rfl rfl rfl rfl ⟨by decide, (by first | decide | exact Nat.le_of_ble_eq_true rfl), (by first | decide | exact Nat.le_of_ble_eq_true rfl), rfl⟩ (calI.mono h fun v43 s42 h44 => ?_)
  refine wpc_sl (n := 6) (c' := 11) (pc' := 111) (ls' := [some (.ref 0), some (.int a1), some (.int a2), some (.int a3)]) (st' := [.int (16 : Int32), .int (1 : Int32), .int a2, .ref 0, .ref 0]) (s' := (sI s42 0 17 v43)) rfl ?_
  refine wpc_callI (m' := 2) (me' := cm2) (as := [.int a2, .int (1 : Int32), .int (16 : Int32)]) (r := [.ref 0]) rfl rfl rfl rfl rfl ⟨by decide, (by first | decide | exact Nat.le_of_ble_eq_true rfl), (by first | decide | exact Nat.le_of_ble_eq_true rfl), rfl⟩ (calI.mono h44 fun v46 s45 h47 => ?_)
  refine wpc_sl (n := 6) (c' := 11) (pc' := 122) (ls' := [some (.ref 0), some (.int a1), some (.int a2), some (.int a3)]) (st' := [.int (4 : Int32), .int (1 : Int32), .int a3, .ref 0, .ref 0]) (s' := (sI s45 0 18 v46)) rfl ?_
  refine wpc_callI (m' := 2) (me' := cm2) (as := [.int a3, .int (1 : Int32), .int (4 : Int32)]) (r := [.ref 0]) rfl rfl rfl rfl rfl ⟨by decide, (by first | decide | exact Nat.le_of_ble_eq_true rfl), (by first | decide | exact Nat.le_of_ble_eq_true rfl), rfl⟩ (calI.mono h47 fun v49 s48 h50 => ?_)
  refine wpc_sl (n := 4) (c' := 11) (pc' := 133) (ls' := [some (.ref 0), some (.int a1), some (.int a2), some (.int a3)]) (st' := []) (s' := (sI (sI s48 0 19 v49) 0 31 (0 : Int32))) rfl ?_
  exact wpc_ret rfl rfl (fun _ => rfl) rfl ⟨rfl, h50⟩
theorem c15_in  (s : St) (Q : Int32 → St → Prop) (h : wpcI PP 15 cm15 11 2 [some (.ref 0), some (.int (0 : Int32))] [] s Q) : calI PP 15 11 [.ref 0] s Q := by
  refine cal_of (me := cm15) (ls := [some (.ref 0), none]) rfl (Nat.le_of_ble_eq_true rfl) rfl ?_
  refine wpc_sl (n := 2) (c' := 11) (pc' := 2) (ls' := [some (.ref 0), some (.int (0 : Int32))]) (st' := []) (s' := s) rfl ?_
  exact h
theorem c15_2 (x1 : Int32) (s : St) (Q : Int32 → St → Prop) (h : ((x1 < (gI s 0 17)) → inb 8 x1 ∧ (((gI s 1 (ix x1)) = (0 : Int32)) → inb 8 x1 ∧ (((gI s 2 (ix x1)) = (0 : Int32)) → inb 8 x1 ∧ inb 8 x1 ∧ inb 8 x1 ∧ inb 8 x1 ∧ Q x1 (sI (sI (sI (sI s 1 (ix x1) (1 : Int32)) 2 (ix x1) (1 : Int32)) 4 (ix x1) (0 : Int32)) 5 (ix x1) (0 : Int32))) ∧ (¬ ((gI s 2 (ix x1)) = (0 : Int32)) → wpcI PP 15 cm15 11 58 [some (.ref 0), some (.int x1)] [] s Q)) ∧ (¬ ((gI s 1 (ix x1)) = (0 : Int32)) → wpcI PP 15 cm15 11 58 [some (.ref 0), some (.int x1)] [] s Q)) ∧ (¬ (x1 < (gI s 0 17)) → Q (-8 : Int32) s)) : wpcI PP 15 cm15 11 2 [some (.ref 0), some (.int x1)] [] s Q := by
  refine wpc_sl (n := 3) (c' := 11) (pc' := 7) (ls' := [some (.ref 0), some (.int x1)]) (st' := [.int (gI s 0 17), .int x1]) (s' := s) rfl ?_
  refine wpc_icmp (a := 64) (b := 10) rfl (by decide) rfl rfl (wpc_br (p := x1 < (gI s 0 17)) ⟨fun hc102 => ?_, fun hc102 => ?_⟩)
  · have h103 := h.1 hc102
    refine wpc_sl (n := 3) (c' := 11) (pc' := 15) (ls' := [some (.ref 0), some (.int x1)]) (st' := [.int x1, .ref 1]) (s' := s) rfl ?_
    refine wpc_ldaZ (a := 0) (N := 8) (v := (gI s 1 (ix x1))) rfl rfl (by decide) h103.1 rfl ?_
    have h105 := h103.2
    refine wpc_if (a := 58) (b := 19) rfl (by decide) rfl rfl (wpc_br (p := (gI s 1 (ix x1)) = (0 : Int32)) ⟨fun hc106 => ?_, fun hc106 => ?_⟩)
    · have h107 := h105.1 hc106
      refine wpc_sl (n := 3) (c' := 11) (pc' := 24) (ls' := [some (.ref 0), some (.int x1)]) (st' := [.int x1, .ref 2]) (s' := s) rfl ?_
      refine wpc_ldaZ (a := 1) (N := 8) (v := (gI s 2 (ix x1))) rfl rfl (by decide) h107.1 rfl ?_
      have h109 := h107.2
      refine wpc_if (a := 58) (b := 28) rfl (by decide) rfl rfl (wpc_br (p := (gI s 2 (ix x1)) = (0 : Int32)) ⟨fun hc110 => ?_, fun hc110 => ?_⟩)
      · have h111 := h109.1 hc110
        refine wpc_sl (n := 4) (c' := 11) (pc' := 34) (ls' := [some (.ref 0), some (.int x1)]) (st' := [.int (1 : Int32), .int x1, .ref 1]) (s' := s) rfl ?_
        refine wpc_staZ (a := 0) (N := 8) (s' := (sI s 1 (ix x1) (1 : Int32))) rfl rfl (by decide) h111.1 rfl ?_
        have h113 := h111.2
        refine wpc_sl (n := 4) (c' := 11) (pc' := 41) (ls' := [some (.ref 0), some (.int x1)]) (st' := [.int (1 : Int32), .int x1, .ref 2]) (s' := (sI s 1 (ix x1) (1 : Int32))) rfl ?_
        refine wpc_staZ (a := 1) (N := 8) (s' := (sI (sI s 1 (ix x1) (1 : Int32)) 2 (ix x1) (1 : Int32))) rfl rfl (by decide) h113.1 rfl ?_
        have h114 := h113.2
        refine wpc_sl (n := 4) (c' := 11) (pc' := 48) (ls' := [some (.ref 0), some (.int x1)]) (st' := [.int (0 : Int32), .int x1, .ref 4]) (s' := (sI (sI s 1 (ix x1) (1 : Int32)) 2 (ix x1) (1 : Int32))) rfl ?_
        refine wpc_staI (a := 3) (N := 8) (s' := (sI (sI (sI s 1 (ix x1) (1 : Int32)) 2 (ix x1) (1 : Int32)) 4 (ix x1) (0 : Int32))) rfl rfl (by decide) h114.1 rfl ?_
        have h115 := h114.2
        refine wpc_sl (n := 4) (c' := 11) (pc' := 55) (ls' := [some (.ref 0), some (.int x1)]) (st' := [.int (0 : Int32), .int x1, .ref 5]) (s' := (sI (sI (sI s 1 (ix x1) (1 : Int32)) 2 (ix x1) (1 : Int32)) 4 (ix x1) (0 : Int32))) rfl ?_
        refine wpc_staI (a := 4) (N := 8) (s' := (sI (sI (sI (sI s 1 (ix x1) (1 : Int32)) 2 (ix x1) (1 : Int32)) 4 (ix x1) (0 : Int32)) 5 (ix x1) (0 : Int32))) rfl rfl (by decide) h115.1 rfl ?_
        have h116 := h115.2
        refine wpc_sl (n := 1) (c' := 11) (pc' := 57) (ls' := [some (.ref 0), some (.int x1)]) (st' := [.int x1]) (s' := (sI (sI (sI (sI s 1 (ix x1) (1 : Int32)) 2 (ix x1) (1 : Int32)) 4 (ix x1) (0 : Int32)) 5 (ix x1) (0 : Int32))) rfl ?_
        exact wpc_ret rfl rfl (fun q => absurd q (by decide)) rfl ⟨x1, rfl, h116⟩
      · have h112 := h109.2 hc110
        exact h112
    · have h108 := h105.2 hc106
      exact h108
  · have h104 := h.2 hc102
    refine wpc_sl (n := 1) (c' := 11) (pc' := 66) (ls' := [some (.ref 0), some (.int x1)]) (st' := [.int (-8 : Int32)]) (s' := s) rfl ?_
    exact wpc_ret rfl rfl (fun q => absurd q (by decide)) rfl ⟨(-8 : Int32), rfl, h104⟩
theorem c15_58 (x1 : Int32) (s : St) (Q : Int32 → St → Prop) (h : wpcI PP 15 cm15 11 2 [some (.ref 0), some (.int (x1 + (1 : Int32)))] [] s Q) : wpcI PP 15 cm15 11 58 [some (.ref 0), some (.int x1)] [] s Q := by
  refine wpc_sl (n := 2) (c' := 11) (pc' := 2) (ls' := [some (.ref 0), some (.int (x1 + (1 : Int32)))]) (st' := []) (s' := s) rfl ?_
  exact h
theorem c3_in (a1 : Int32) (s : St) (Q : Int32 → St → Prop) (h : ((a1 < (0 : Int32)) → Q (0 : Int32) s) ∧ (¬ (a1 < (0 : Int32)) → ((a1 < ((2 : Int32) * (gI s 0 17))) → (((a1 &&& (1 : Int32)) = (0 : Int32)) → inb 8 (a1 >>> ((1 : Int32) &&& 31)) ∧ Q ((gI s 1 (ix (a1 >>> ((1 : Int32) &&& 31)))) &&& 1) s) ∧ (¬ ((a1 &&& (1 : Int32)) = (0 : Int32)) → inb 8 (a1 >>> ((1 : Int32) &&& 31)) ∧ Q ((gI s 2 (ix (a1 >>> ((1 : Int32) &&& 31)))) &&& 1) s)) ∧ (¬ (a1 < ((2 : Int32) * (gI s 0 17))) → Q (0 : Int32) s))) : calI PP 3 11 [.ref 0, .int a1] s Q := by
  refine cal_of (me := cm3) (ls := [some (.ref 0), some (.int a1), none]) rfl (Nat.le_of_ble_eq_true rfl) rfl ?_
  refine wpc_sl (n := 1) (c' := 11) (pc' := 1) (ls' := [some (.ref 0), some (.int a1), none]) (st' := [.int a1]) (s' := s) rfl ?_
  refine wpc_if (a := 14) (b := 4) rfl (by decide) rfl rfl (wpc_br (p := a1 < (0 : Int32)) ⟨fun hc151 => ?_, fun hc151 => ?_⟩)
  · have h152 := h.1 hc151
    refine wpc_sl (n := 1) (c' := 11) (pc' := 15) (ls' := [some (.ref 0), some (.int a1), none]) (st' := [.int (0 : Int32)]) (s' := s) rfl ?_
    exact wpc_ret rfl rfl (fun q => absurd q (by decide)) rfl ⟨(0 : Int32), rfl, h152⟩
  · have h153 := h.2 hc151
    refine wpc_sl (n := 5) (c' := 11) (pc' := 11) (ls' := [some (.ref 0), some (.int a1), none]) (st' := [.int ((2 : Int32) * (gI s 0 17)), .int a1]) (s' := s) rfl ?_
    refine wpc_icmp (a := 16) (b := 14) rfl (by decide) rfl rfl (wpc_br (p := a1 < ((2 : Int32) * (gI s 0 17))) ⟨fun hc154 => ?_, fun hc154 => ?_⟩)
    · have h155 := h153.1 hc154
      refine wpc_sl (n := 7) (c' := 11) (pc' := 23) (ls' := [some (.ref 0), some (.int a1), some (.int (a1 >>> ((1 : Int32) &&& 31)))]) (st' := [.int (a1 &&& (1 : Int32))]) (s' := s) rfl ?_
      refine wpc_if (a := 33) (b := 26) rfl (by decide) rfl rfl (wpc_br (p := (a1 &&& (1 : Int32)) = (0 : Int32)) ⟨fun hc157 => ?_, fun hc157 => ?_⟩)
      · have h158 := h155.1 hc157
        refine wpc_sl (n := 3) (c' := 11) (pc' := 31) (ls' := [some (.ref 0), some (.int a1), some (.int (a1 >>> ((1 : Int32) &&& 31)))]) (st' := [.int (a1 >>> ((1 : Int32) &&& 31)), .ref 1]) (s' := s) rfl ?_
        refine wpc_ldaZ (a := 0) (N := 8) (v := (gI s 1 (ix (a1 >>> ((1 : Int32) &&& 31))))) rfl rfl (by decide) h158.1 rfl ?_
        have h160 := h158.2
        exact wpc_ret rfl rfl (fun q => absurd q (by decide)) rfl ⟨((gI s 1 (ix (a1 >>> ((1 : Int32) &&& 31)))) &&& 1), rfl, h160⟩
      · have h159 := h155.2 hc157
        refine wpc_sl (n := 3) (c' := 11) (pc' := 38) (ls' := [some (.ref 0), some (.int a1), some (.int (a1 >>> ((1 : Int32) &&& 31)))]) (st' := [.int (a1 >>> ((1 : Int32) &&& 31)), .ref 2]) (s' := s) rfl ?_
        refine wpc_ldaZ (a := 1) (N := 8) (v := (gI s 2 (ix (a1 >>> ((1 : Int32) &&& 31))))) rfl rfl (by decide) h159.1 rfl ?_
        have h161 := h159.2
        exact wpc_ret rfl rfl (fun q => absurd q (by decide)) rfl ⟨((gI s 2 (ix (a1 >>> ((1 : Int32) &&& 31)))) &&& 1), rfl, h161⟩
    · have h156 := h153.2 hc154
      refine wpc_sl (n := 1) (c' := 11) (pc' := 15) (ls' := [some (.ref 0), some (.int a1), none]) (st' := [.int (0 : Int32)]) (s' := s) rfl ?_
      exact wpc_ret rfl rfl (fun q => absurd q (by decide)) rfl ⟨(0 : Int32), rfl, h156⟩
theorem c4_in (a1 : Int32) (s : St) (Q : Int32 → St → Prop) (h : (((a1 &&& (1 : Int32)) = (0 : Int32)) → inb 8 (a1 >>> ((1 : Int32) &&& 31)) ∧ (((0 : Int32) < (gI s 5 (ix (a1 >>> ((1 : Int32) &&& 31))))) → inb 8 (a1 >>> ((1 : Int32) &&& 31)) ∧ (((gI s 2 (ix (a1 >>> ((1 : Int32) &&& 31)))) = (0 : Int32)) → Q (((0 : Int32) ||| (1 : Int32)) ||| (4 : Int32)) s) ∧ (¬ ((gI s 2 (ix (a1 >>> ((1 : Int32) &&& 31)))) = (0 : Int32)) → Q ((0 : Int32) ||| (1 : Int32)) s)) ∧ (¬ ((0 : Int32) < (gI s 5 (ix (a1 >>> ((1 : Int32) &&& 31))))) → inb 8 (a1 >>> ((1 : Int32) &&& 31)) ∧ ∀ m174, m174 = (if (gI s 2 (ix (a1 >>> ((1 : Int32) &&& 31)))) = (0 : Int32) then ((0 : Int32) ||| (1 : Int32)) else (0 : Int32)) → (inb 8 (a1 >>> ((1 : Int32) &&& 31)) ∧ (((gI s 2 (ix (a1 >>> ((1 : Int32) &&& 31)))) = (0 : Int32)) → Q (m174 ||| (4 : Int32)) s) ∧ (¬ ((gI s 2 (ix (a1 >>> ((1 : Int32) &&& 31)))) = (0 : Int32)) → Q m174 s)))) ∧ (¬ ((a1 &&& (1 : Int32)) = (0 : Int32)) → inb 8 (a1 >>> ((1 : Int32) &&& 31)) ∧ (((gI s 5 (ix (a1 >>> ((1 : Int32) &&& 31)))) < (gI s 0 18)) → inb 8 (a1 >>> ((1 : Int32) &&& 31)) ∧ (((gI s 1 (ix (a1 >>> ((1 : Int32) &&& 31)))) = (0 : Int32)) → Q (((0 : Int32) ||| (2 : Int32)) ||| (8 : Int32)) s) ∧ (¬ ((gI s 1 (ix (a1 >>> ((1 : Int32) &&& 31)))) = (0 : Int32)) → Q ((0 : Int32) ||| (2 : Int32)) s)) ∧ (¬ ((gI s 5 (ix (a1 >>> ((1 : Int32) &&& 31)))) < (gI s 0 18)) → inb 8 (a1 >>> ((1 : Int32) &&& 31)) ∧ ∀ m191, m191 = (if (gI s 1 (ix (a1 >>> ((1 : Int32) &&& 31)))) = (0 : Int32) then ((0 : Int32) ||| (2 : Int32)) else (0 : Int32)) → (inb 8 (a1 >>> ((1 : Int32) &&& 31)) ∧ (((gI s 1 (ix (a1 >>> ((1 : Int32) &&& 31)))) = (0 : Int32)) → Q (m191 ||| (8 : Int32)) s) ∧ (¬ ((gI s 1 (ix (a1 >>> ((1 : Int32) &&& 31)))) = (0 : Int32)) → Q m191 s))))) : calI PP 4 11 [.ref 0, .int a1] s Q := by
  refine cal_of (me := cm4) (ls := [some (.ref 0), some (.int a1), none, none]) rfl (Nat.le_of_ble_eq_true rfl) rfl ?_
  refine wpc_sl (n := 9) (c' := 11) (pc' := 9) (ls' := [some (.ref 0), some (.int a1), some (.int (a1 >>> ((1 : Int32) &&& 31))), some (.int (0 : Int32))]) (st' := [.int (a1 &&& (1 : Int32))]) (s' := s) rfl ?_
  refine wpc_if (a := 50) (b := 12) rfl (by decide) rfl rfl (wpc_br (p := (a1 &&& (1 : Int32)) = (0 : Int32)) ⟨fun hc162 => ?_, fun hc162 => ?_⟩)
  · have h163 := h.1 hc162
    refine wpc_sl (n := 3) (c' := 11) (pc' := 17) (ls' := [some (.ref 0), some (.int a1), some (.int (a1 >>> ((1 : Int32) &&& 31))), some (.int (0 : Int32))]) (st' := [.int (a1 >>> ((1 : Int32) &&& 31)), .ref 5]) (s' := s) rfl ?_
    refine wpc_ldaI (a := 4) (N := 8) (v := (gI s 5 (ix (a1 >>> ((1 : Int32) &&& 31))))) rfl rfl (by decide) h163.1 rfl ?_
    have h165 := h163.2
    refine wpc_if (a := 30) (b := 21) rfl (by decide) rfl rfl (wpc_br (p := (0 : Int32) < (gI s 5 (ix (a1 >>> ((1 : Int32) &&& 31))))) ⟨fun hc166 => ?_, fun hc166 => ?_⟩)
    · have h167 := h165.1 hc166
      refine wpc_sl (n := 7) (c' := 11) (pc' := 39) (ls' := [some (.ref 0), some (.int a1), some (.int (a1 >>> ((1 : Int32) &&& 31))), some (.int ((0 : Int32) ||| (1 : Int32)))]) (st' := [.int (a1 >>> ((1 : Int32) &&& 31)), .ref 2]) (s' := s) rfl ?_
      refine wpc_ldaZ (a := 1) (N := 8) (v := (gI s 2 (ix (a1 >>> ((1 : Int32) &&& 31))))) rfl rfl (by decide) h167.1 rfl ?_
      have h169 := h167.2
      refine wpc_if (a := 90) (b := 43) rfl (by decide) rfl rfl (wpc_br (p := (gI s 2 (ix (a1 >>> ((1 : Int32) &&& 31)))) = (0 : Int32)) ⟨fun hc170 => ?_, fun hc170 => ?_⟩)
      · have h171 := h169.1 hc170
        refine wpc_sl (n := 6) (c' := 11) (pc' := 91) (ls' := [some (.ref 0), some (.int a1), some (.int (a1 >>> ((1 : Int32) &&& 31))), some (.int (((0 : Int32) ||| (1 : Int32)) ||| (4 : Int32)))]) (st' := [.int (((0 : Int32) ||| (1 : Int32)) ||| (4 : Int32))]) (s' := s) rfl ?_
        exact wpc_ret rfl rfl (fun q => absurd q (by decide)) rfl ⟨(((0 : Int32) ||| (1 : Int32)) ||| (4 : Int32)), rfl, h171⟩
      · have h172 := h169.2 hc170
        refine wpc_sl (n := 1) (c' := 11) (pc' := 91) (ls' := [some (.ref 0), some (.int a1), some (.int (a1 >>> ((1 : Int32) &&& 31))), some (.int ((0 : Int32) ||| (1 : Int32)))]) (st' := [.int ((0 : Int32) ||| (1 : Int32))]) (s' := s) rfl ?_
        exact wpc_ret rfl rfl (fun q => absurd q (by decide)) rfl ⟨((0 : Int32) ||| (1 : Int32)), rfl, h172⟩
    · have h168 := h165.2 hc166
      refine wpc_sl (n := 3) (c' := 11) (pc' := 26) (ls' := [some (.ref 0), some (.int a1), some (.int (a1 >>> ((1 : Int32) &&& 31))), some (.int (0 : Int32))]) (st' := [.int (a1 >>> ((1 : Int32) &&& 31)), .ref 2]) (s' := s) rfl ?_
      refine wpc_ldaZ (a := 1) (N := 8) (v := (gI s 2 (ix (a1 >>> ((1 : Int32) &&& 31))))) rfl rfl (by decide) h168.1 rfl ?_
      have h173 := h168.2
      have hm175 : ∀ m174, m174 = (if (gI s 2 (ix (a1 >>> ((1 : Int32) &&& 31)))) = (0 : Int32) then ((0 : Int32) ||| (1 : Int32)) else (0 : Int32)) → wpcI PP 4 cm4 11 34 [some (.ref 0), some (.int a1), some (.int (a1 >>> ((1 : Int32) &&& 31))), some (.int m174)] [] s Q := by
        intro m174 em174
        have h176 := h173 m174 em174
        refine wpc_sl (n := 3) (c' := 11) (pc' := 39) (ls' := [some (.ref 0), some (.int a1), some (.int (a1 >>> ((1 : Int32) &&& 31))), some (.int m174)]) (st' := [.int (a1 >>> ((1 : Int32) &&& 31)), .ref 2]) (s' := s) rfl ?_
        refine wpc_ldaZ (a := 1) (N := 8) (v := (gI s 2 (ix (a1 >>> ((1 : Int32) &&& 31))))) rfl rfl (by decide) h176.1 rfl ?_
        have h177 := h176.2
        refine wpc_if (a := 90) (b := 43) rfl (by decide) rfl rfl (wpc_br (p := (gI s 2 (ix (a1 >>> ((1 : Int32) &&& 31)))) = (0 : Int32)) ⟨fun hc178 => ?_, fun hc178 => ?_⟩)
        · have h179 := h177.1 hc178
          refine wpc_sl (n := 6) (c' := 11) (pc' := 91) (ls' := [some (.ref 0), some (.int a1), some (.int (a1 >>> ((1 : Int32) &&& 31))), some (.int (m174 ||| (4 : Int32)))]) (st' := [.int (m174 ||| (4 : Int32))]) (s' := s) rfl ?_
          exact wpc_ret rfl rfl (fun q => absurd q (by decide)) rfl ⟨(m174 ||| (4 : Int32)), rfl, h179⟩
        · have h180 := h177.2 hc178
          refine wpc_sl (n := 1) (c' := 11) (pc' := 91) (ls' := [some (.ref 0), some (.int a1), some (.int (a1 >>> ((1 : Int32) &&& 31))), some (.int m174)]) (st' := [.int m174]) (s' := s) rfl ?_
          exact wpc_ret rfl rfl (fun q => absurd q (by decide)) rfl ⟨m174, rfl, h180⟩
      refine wpc_if (a := 34) (b := 30) rfl (by decide) rfl rfl (wpc_br (p := (gI s 2 (ix (a1 >>> ((1 : Int32) &&& 31)))) = (0 : Int32)) ⟨fun hc181 => ?_, fun hc181 => ?_⟩)
      · refine wpc_sl (n := 4) (c' := 11) (pc' := 34) (ls' := [some (.ref 0), some (.int a1), some (.int (a1 >>> ((1 : Int32) &&& 31))), some (.int ((0 : Int32) ||| (1 : Int32)))]) (st' := []) (s' := s) rfl ?_
        first | exact hm175 _ (by simp only [if_pos hc181]) | exact wpc_lle (by repeat (first | exact trivial | refine ⟨rfl, ?_⟩)) (hm175 _ (by simp only [if_pos hc181]))
      · first | exact hm175 _ (by simp only [if_neg hc181]) | exact wpc_lle (by repeat (first | exact trivial | refine ⟨rfl, ?_⟩)) (hm175 _ (by simp only [if_neg hc181]))
  · have h164 := h.2 hc162
    refine wpc_sl (n := 3) (c' := 11) (pc' := 55) (ls' := [some (.ref 0), some (.int a1), some (.int (a1 >>> ((1 : Int32) &&& 31))), some (.int (0 : Int32))]) (st' := [.int (a1 >>> ((1 : Int32) &&& 31)), .ref 5]) (s' := s) rfl ?_
    refine wpc_ldaI (a := 4) (N := 8) (v := (gI s 5 (ix (a1 >>> ((1 : Int32) &&& 31))))) rfl rfl (by decide) h164.1 rfl ?_
    have h182 := h164.2
    refine wpc_sl (n := 2) (c' := 11) (pc' := 60) (ls' := [some (.ref 0), some (.int a1), some (.int (a1 >>> ((1 : Int32) &&& 31))), some (.int (0 : Int32))]) (st' := [.int (gI s 0 18), .int (gI s 5 (ix (a1 >>> ((1 : Int32) &&& 31))))]) (s' := s) rfl ?_
    refine wpc_icmp (a := 72) (b := 63) rfl (by decide) rfl rfl (wpc_br (p := (gI s 5 (ix (a1 >>> ((1 : Int32) &&& 31)))) < (gI s 0 18)) ⟨fun hc183 => ?_, fun hc183 => ?_⟩)
    · have h184 := h182.1 hc183
      refine wpc_sl (n := 7) (c' := 11) (pc' := 81) (ls' := [some (.ref 0), some (.int a1), some (.int (a1 >>> ((1 : Int32) &&& 31))), some (.int ((0 : Int32) ||| (2 : Int32)))]) (st' := [.int (a1 >>> ((1 : Int32) &&& 31)), .ref 1]) (s' := s) rfl ?_
      refine wpc_ldaZ (a := 0) (N := 8) (v := (gI s 1 (ix (a1 >>> ((1 : Int32) &&& 31))))) rfl rfl (by decide) h184.1 rfl ?_
      have h186 := h184.2
      refine wpc_if (a := 90) (b := 85) rfl (by decide) rfl rfl (wpc_br (p := (gI s 1 (ix (a1 >>> ((1 : Int32) &&& 31)))) = (0 : Int32)) ⟨fun hc187 => ?_, fun hc187 => ?_⟩)
      · have h188 := h186.1 hc187
        refine wpc_sl (n := 5) (c' := 11) (pc' := 91) (ls' := [some (.ref 0), some (.int a1), some (.int (a1 >>> ((1 : Int32) &&& 31))), some (.int (((0 : Int32) ||| (2 : Int32)) ||| (8 : Int32)))]) (st' := [.int (((0 : Int32) ||| (2 : Int32)) ||| (8 : Int32))]) (s' := s) rfl ?_
        exact wpc_ret rfl rfl (fun q => absurd q (by decide)) rfl ⟨(((0 : Int32) ||| (2 : Int32)) ||| (8 : Int32)), rfl, h188⟩
      · have h189 := h186.2 hc187
        refine wpc_sl (n := 1) (c' := 11) (pc' := 91) (ls' := [some (.ref 0), some (.int a1), some (.int (a1 >>> ((1 : Int32) &&& 31))), some (.int ((0 : Int32) ||| (2 : Int32)))]) (st' := [.int ((0 : Int32) ||| (2 : Int32))]) (s' := s) rfl ?_
        exact wpc_ret rfl rfl (fun q => absurd q (by decide)) rfl ⟨((0 : Int32) ||| (2 : Int32)), rfl, h189⟩
    · have h185 := h182.2 hc183
      refine wpc_sl (n := 3) (c' := 11) (pc' := 68) (ls' := [some (.ref 0), some (.int a1), some (.int (a1 >>> ((1 : Int32) &&& 31))), some (.int (0 : Int32))]) (st' := [.int (a1 >>> ((1 : Int32) &&& 31)), .ref 1]) (s' := s) rfl ?_
      refine wpc_ldaZ (a := 0) (N := 8) (v := (gI s 1 (ix (a1 >>> ((1 : Int32) &&& 31))))) rfl rfl (by decide) h185.1 rfl ?_
      have h190 := h185.2
      have hm192 : ∀ m191, m191 = (if (gI s 1 (ix (a1 >>> ((1 : Int32) &&& 31)))) = (0 : Int32) then ((0 : Int32) ||| (2 : Int32)) else (0 : Int32)) → wpcI PP 4 cm4 11 76 [some (.ref 0), some (.int a1), some (.int (a1 >>> ((1 : Int32) &&& 31))), some (.int m191)] [] s Q := by
        intro m191 em191
        have h193 := h190 m191 em191
        refine wpc_sl (n := 3) (c' := 11) (pc' := 81) (ls' := [some (.ref 0), some (.int a1), some (.int (a1 >>> ((1 : Int32) &&& 31))), some (.int m191)]) (st' := [.int (a1 >>> ((1 : Int32) &&& 31)), .ref 1]) (s' := s) rfl ?_
        refine wpc_ldaZ (a := 0) (N := 8) (v := (gI s 1 (ix (a1 >>> ((1 : Int32) &&& 31))))) rfl rfl (by decide) h193.1 rfl ?_
        have h194 := h193.2
        refine wpc_if (a := 90) (b := 85) rfl (by decide) rfl rfl (wpc_br (p := (gI s 1 (ix (a1 >>> ((1 : Int32) &&& 31)))) = (0 : Int32)) ⟨fun hc195 => ?_, fun hc195 => ?_⟩)
        · have h196 := h194.1 hc195
          refine wpc_sl (n := 5) (c' := 11) (pc' := 91) (ls' := [some (.ref 0), some (.int a1), some (.int (a1 >>> ((1 : Int32) &&& 31))), some (.int (m191 ||| (8 : Int32)))]) (st' := [.int (m191 ||| (8 : Int32))]) (s' := s) rfl ?_
          exact wpc_ret rfl rfl (fun q => absurd q (by decide)) rfl ⟨(m191 ||| (8 : Int32)), rfl, h196⟩
        · have h197 := h194.2 hc195
          refine wpc_sl (n := 1) (c' := 11) (pc' := 91) (ls' := [some (.ref 0), some (.int a1), some (.int (a1 >>> ((1 : Int32) &&& 31))), some (.int m191)]) (st' := [.int m191]) (s' := s) rfl ?_
          exact wpc_ret rfl rfl (fun q => absurd q (by decide)) rfl ⟨m191, rfl, h197⟩
      refine wpc_if (a := 76) (b := 72) rfl (by decide) rfl rfl (wpc_br (p := (gI s 1 (ix (a1 >>> ((1 : Int32) &&& 31)))) = (0 : Int32)) ⟨fun hc198 => ?_, fun hc198 => ?_⟩)
      · refine wpc_sl (n := 4) (c' := 11) (pc' := 76) (ls' := [some (.ref 0), some (.int a1), some (.int (a1 >>> ((1 : Int32) &&& 31))), some (.int ((0 : Int32) ||| (2 : Int32)))]) (st' := []) (s' := s) rfl ?_
        first | exact hm192 _ (by simp only [if_pos hc198]) | exact wpc_lle (by repeat (first | exact trivial | refine ⟨rfl, ?_⟩)) (hm192 _ (by simp only [if_pos hc198]))
      · first | exact hm192 _ (by simp only [if_neg hc198]) | exact wpc_lle (by repeat (first | exact trivial | refine ⟨rfl, ?_⟩)) (hm192 _ (by simp only [if_neg hc198]))
theorem c8_in (a1 : Int32) (a2 : Int32) (s : St) (Q : Int32 → St → Prop) (h : Q ((a1 * (16 : Int32)) + a2) s) : calI PP 8 11 [.ref 0, .int a1, .int a2] s Q := by
  refine cal_of (me := cm8) (ls := [some (.ref 0), some (.int a1), some (.int a2)]) rfl (Nat.le_of_ble_eq_true rfl) rfl ?_
  refine wpc_sl (n := 5) (c' := 11) (pc' := 6) (ls' := [some (.ref 0), some (.int a1), some (.int a2)]) (st' := [.int ((a1 * (16 : Int32)) + a2)]) (s' := s) rfl ?_
  exact wpc_ret rfl rfl (fun q => absurd q (by decide)) rfl ⟨((a1 * (16 : Int32)) + a2), rfl, h⟩
theorem c5_in (a1 : Int32) (s : St) (Q : Int32 → St → Prop) (h : Q (((a1 &&& (3 : Int32)) ||| (4 : Int32)) ||| (8 : Int32)) s) : calI PP 5 11 [.ref 0, .int a1] s Q := by
  refine cal_of (me := cm5) (ls := [some (.ref 0), some (.int a1)]) rfl (Nat.le_of_ble_eq_true rfl) rfl ?_
  refine wpc_sl (n := 7) (c' := 11) (pc' := 8) (ls' := [some (.ref 0), some (.int a1)]) (st' := [.int (((a1 &&& (3 : Int32)) ||| (4 : Int32)) ||| (8 : Int32))]) (s' := s) rfl ?_
  exact wpc_ret rfl rfl (fun q => absurd q (by decide)) rfl ⟨(((a1 &&& (3 : Int32)) ||| (4 : Int32)) ||| (8 : Int32)), rfl, h⟩
theorem c13_in (a1 : Int32) (a2 : Int32) (s : St) (Q : St → Prop) (h : calI PP 3 11 [.ref 0, .int a1] s (fun v200 s199 => ((v200 = (0 : Int32)) → Q s199) ∧ (¬ (v200 = (0 : Int32)) → calI PP 4 11 [.ref 0, .int a1] s199 (fun v206 s205 => wpcV PP 13 cm13 11 18 [some (.ref 0), some (.int a1), some (.int a2), some (.int v206), some (.int (0 : Int32)), none, none] [] s205 Q)))) : calV PP 13 11 [.ref 0, .int a1, .int a2] s Q := by
  refine cal_of (me := cm13) (ls := [some (.ref 0), some (.int a1), some (.int a2), none, none, none, none]) rfl (Nat.le_of_ble_eq_true rfl) rfl ?_
  refine wpc_sl (n := 2) (c' := 11) (pc' := 2) (ls' := [some (.ref 0), some (.int a1), some (.int a2), none, none, none, none]) (st' := [.int a1, .ref 0]) (s' := s) rfl ?_
  refine wpc_callI (m' := 3) (me' := cm3) (as := [.int a1]) (r := []) rfl rfl rfl rfl rfl ⟨by decide, (by first | decide | exact Nat.le_of_ble_eq_true rfl), (by first | decide | exact Nat.le_of_ble_eq_true rfl), rfl⟩ (calI.mono h fun v200 s199 h201 => ?_)
  refine wpc_if (a := 9) (b := 8) rfl (by decide) rfl rfl (wpc_br (p := v200 = (0 : Int32)) ⟨fun hc202 => ?_, fun hc202 => ?_⟩)
  · have h203 := h201.1 hc202
    exact wpc_ret rfl rfl (fun q => absurd q (by decide)) rfl ⟨rfl, h203⟩
  · have h204 := h201.2 hc202
    refine wpc_sl (n := 2) (c' := 11) (pc' := 11) (ls' := [some (.ref 0), some (.int a1), some (.int a2), none, none, none, none]) (st' := [.int a1, .ref 0]) (s' := s199) rfl ?_
    refine wpc_callI (m' := 4) (me' := cm4) (as := [.int a1]) (r := []) rfl rfl rfl rfl rfl ⟨by decide, (by first | decide | exact Nat.le_of_ble_eq_true rfl), (by first | decide | exact Nat.le_of_ble_eq_true rfl), rfl⟩ (calI.mono h204 fun v206 s205 h207 => ?_)
    refine wpc_sl (n := 3) (c' := 11) (pc' := 18) (ls' := [some (.ref 0), some (.int a1), some (.int a2), some (.int v206), some (.int (0 : Int32)), none, none]) (st' := []) (s' := s205) rfl ?_
    exact h207
theorem c13_18 (x1 : Int32) (x2 : Int32) (x3 : Int32) (x4 : Int32) (s : St) (Q : St → Prop) (h : ((x4 < (gI s 0 19)) → calI PP 8 11 [.ref 0, .int x4, .int x1] s (fun v212 s211 => inb 64 v212 ∧ (((gI s211 6 (ix v212)) = (0 : Int32)) → wpcV PP 13 cm13 11 107 [some (.ref 0), some (.int x1), some (.int x2), some (.int x3), some (.int x4), none, none] [] s211 Q) ∧ (¬ ((gI s211 6 (ix v212)) = (0 : Int32)) → inb 64 v212 ∧ (((gI s211 8 (ix v212)) = (0 : Int32)) → wpcV PP 13 cm13 11 107 [some (.ref 0), some (.int x1), some (.int x2), some (.int x3), some (.int x4), none, none] [] s211 Q) ∧ (¬ ((gI s211 8 (ix v212)) = (0 : Int32)) → inb 64 v212 ∧ ((((gI s211 7 (ix v212)) &&& (16 : Int32)) = (0 : Int32)) → wpcV PP 13 cm13 11 107 [some (.ref 0), some (.int x1), some (.int x2), some (.int x3), some (.int x4), none, none] [] s211 Q) ∧ (¬ (((gI s211 7 (ix v212)) &&& (16 : Int32)) = (0 : Int32)) → inb 64 v212 ∧ calI PP 5 11 [.ref 0, .int (gI s211 7 (ix v212))] s211 (fun v228 s227 => inb 64 v212 ∧ inb 64 v212 ∧ wpcV PP 13 cm13 11 107 [some (.ref 0), some (.int x1), some (.int x2), some (.int x3), some (.int x4), none, none] [] (sI s227 9 (ix v212) (((gI s227 9 (ix v212)) &&& x3) ||| ((x3 &&& (x2 ^^^ (-1 : Int32))) &&& v228))) Q)))))) ∧ (¬ (x4 < (gI s 0 19)) → Q s)) : wpcV PP 13 cm13 11 18 [some (.ref 0), some (.int x1), some (.int x2), some (.int x3), some (.int x4), none, none] [] s Q := by
  refine wpc_sl (n := 3) (c' := 11) (pc' := 24) (ls' := [some (.ref 0), some (.int x1), some (.int x2), some (.int x3), some (.int x4), none, none]) (st' := [.int (gI s 0 19), .int x4]) (s' := s) rfl ?_
  refine wpc_icmp (a := 113) (b := 27) rfl (by decide) rfl rfl (wpc_br (p := x4 < (gI s 0 19)) ⟨fun hc208 => ?_, fun hc208 => ?_⟩)
  · have h209 := h.1 hc208
    refine wpc_sl (n := 3) (c' := 11) (pc' := 31) (ls' := [some (.ref 0), some (.int x1), some (.int x2), some (.int x3), some (.int x4), none, none]) (st' := [.int x1, .int x4, .ref 0]) (s' := s) rfl ?_
    refine wpc_callI (m' := 8) (me' := cm8) (as := [.int x4, .int x1]) (r := []) rfl rfl rfl rfl rfl ⟨by decide, (by first | decide | exact Nat.le_of_ble_eq_true rfl), (by first | decide | exact Nat.le_of_ble_eq_true rfl), rfl⟩ (calI.mono h209 fun v212 s211 h213 => ?_)
    refine wpc_sl (n := 4) (c' := 11) (pc' := 42) (ls' := [some (.ref 0), some (.int x1), some (.int x2), some (.int x3), some (.int x4), some (.int v212), none]) (st' := [.int v212, .ref 6]) (s' := s211) rfl ?_
    refine wpc_ldaZ (a := 5) (N := 64) (v := (gI s211 6 (ix v212))) rfl rfl (by decide) h213.1 rfl ?_
    have h214 := h213.2
    refine wpc_if (a := 107) (b := 46) rfl (by decide) rfl rfl (wpc_br (p := (gI s211 6 (ix v212)) = (0 : Int32)) ⟨fun hc215 => ?_, fun hc215 => ?_⟩)
    · have h216 := h214.1 hc215
      exact wpc_lle (ls := [some (.ref 0), some (.int x1), some (.int x2), some (.int x3), some (.int x4), none, none]) ⟨rfl, rfl, rfl, rfl, rfl, trivial⟩ h216
    · have h217 := h214.2 hc215
      refine wpc_sl (n := 3) (c' := 11) (pc' := 52) (ls' := [some (.ref 0), some (.int x1), some (.int x2), some (.int x3), some (.int x4), some (.int v212), none]) (st' := [.int v212, .ref 8]) (s' := s211) rfl ?_
      refine wpc_ldaZ (a := 7) (N := 64) (v := (gI s211 8 (ix v212))) rfl rfl (by decide) h217.1 rfl ?_
      have h218 := h217.2
      refine wpc_if (a := 107) (b := 56) rfl (by decide) rfl rfl (wpc_br (p := (gI s211 8 (ix v212)) = (0 : Int32)) ⟨fun hc219 => ?_, fun hc219 => ?_⟩)
      · have h220 := h218.1 hc219
        exact wpc_lle (ls := [some (.ref 0), some (.int x1), some (.int x2), some (.int x3), some (.int x4), none, none]) ⟨rfl, rfl, rfl, rfl, rfl, trivial⟩ h220
      · have h221 := h218.2 hc219
        refine wpc_sl (n := 3) (c' := 11) (pc' := 62) (ls' := [some (.ref 0), some (.int x1), some (.int x2), some (.int x3), some (.int x4), some (.int v212), none]) (st' := [.int v212, .ref 7]) (s' := s211) rfl ?_
        refine wpc_ldaI (a := 6) (N := 64) (v := (gI s211 7 (ix v212))) rfl rfl (by decide) h221.1 rfl ?_
        have h222 := h221.2
        refine wpc_sl (n := 2) (c' := 11) (pc' := 66) (ls' := [some (.ref 0), some (.int x1), some (.int x2), some (.int x3), some (.int x4), some (.int v212), none]) (st' := [.int ((gI s211 7 (ix v212)) &&& (16 : Int32))]) (s' := s211) rfl ?_
        refine wpc_if (a := 107) (b := 69) rfl (by decide) rfl rfl (wpc_br (p := ((gI s211 7 (ix v212)) &&& (16 : Int32)) = (0 : Int32)) ⟨fun hc223 => ?_, fun hc223 => ?_⟩)
        · have h224 := h222.1 hc223
          exact wpc_lle (ls := [some (.ref 0), some (.int x1), some (.int x2), some (.int x3), some (.int x4), none, none]) ⟨rfl, rfl, rfl, rfl, rfl, trivial⟩ h224
        · have h225 := h222.2 hc223
          refine wpc_sl (n := 4) (c' := 11) (pc' := 76) (ls' := [some (.ref 0), some (.int x1), some (.int x2), some (.int x3), some (.int x4), some (.int v212), none]) (st' := [.int v212, .ref 7, .ref 0]) (s' := s211) rfl ?_
          refine wpc_ldaI (a := 6) (N := 64) (v := (gI s211 7 (ix v212))) rfl rfl (by decide) h225.1 rfl ?_
          have h226 := h225.2
          refine wpc_callI (m' := 5) (me' := cm5) (as := [.int (gI s211 7 (ix v212))]) (r := []) rfl rfl rfl rfl rfl ⟨by decide, (by first | decide | exact Nat.le_of_ble_eq_true rfl), (by first | decide | exact Nat.le_of_ble_eq_true rfl), rfl⟩ (calI.mono h226 fun v228 s227 h229 => ?_)
          refine wpc_sl (n := 7) (c' := 11) (pc' := 94) (ls' := [some (.ref 0), some (.int x1), some (.int x2), some (.int x3), some (.int x4), some (.int v212), some (.int v228)]) (st' := [.int v212, .ref 9, .int v212, .ref 9]) (s' := s227) rfl ?_
          refine wpc_ldaI (a := 8) (N := 64) (v := (gI s227 9 (ix v212))) rfl rfl (by decide) h229.1 rfl ?_
          have h230 := h229.2
          refine wpc_sl (n := 10) (c' := 11) (pc' := 106) (ls' := [some (.ref 0), some (.int x1), some (.int x2), some (.int x3), some (.int x4), some (.int v212), some (.int v228)]) (st' := [.int (((gI s227 9 (ix v212)) &&& x3) ||| ((x3 &&& (x2 ^^^ (-1 : Int32))) &&& v228)), .int v212, .ref 9]) (s' := s227) rfl ?_
          refine wpc_staI (a := 8) (N := 64) (s' := (sI s227 9 (ix v212) (((gI s227 9 (ix v212)) &&& x3) ||| ((x3 &&& (x2 ^^^ (-1 : Int32))) &&& v228)))) rfl rfl (by decide) h230.1 rfl ?_
          have h231 := h230.2
          exact wpc_lle (ls := [some (.ref 0), some (.int x1), some (.int x2), some (.int x3), some (.int x4), none, none]) ⟨rfl, rfl, rfl, rfl, rfl, trivial⟩ h231
  · have h210 := h.2 hc208
    exact wpc_ret rfl rfl (fun q => absurd q (by decide)) rfl ⟨rfl, h210⟩
theorem c13_107 (x1 : Int32) (x2 : Int32) (x3 : Int32) (x4 : Int32) (s : St) (Q : St → Prop) (h : wpcV PP 13 cm13 11 18 [some (.ref 0), some (.int x1), some (.int x2), some (.int x3), some (.int (x4 + (1 : Int32))), none, none] [] s Q) : wpcV PP 13 cm13 11 107 [some (.ref 0), some (.int x1), some (.int x2), some (.int x3), some (.int x4), none, none] [] s Q := by
  refine wpc_sl (n := 2) (c' := 11) (pc' := 18) (ls' := [some (.ref 0), some (.int x1), some (.int x2), some (.int x3), some (.int (x4 + (1 : Int32))), none, none]) (st' := []) (s' := s) rfl ?_
  exact h
theorem c16_in (a1 : Int32) (a2 : Int32) (s : St) (Q : Int32 → St → Prop) (h : calI PP 3 11 [.ref 0, .int a1] s (fun v118 s117 => ((v118 = (0 : Int32)) → Q (-1 : Int32) s117) ∧ (¬ (v118 = (0 : Int32)) → (((a1 &&& (1 : Int32)) = (0 : Int32)) → Q (-1 : Int32) s117) ∧ (¬ ((a1 &&& (1 : Int32)) = (0 : Int32)) → inb 8 (a1 >>> ((1 : Int32) &&& 31)) ∧ (((gI s117 1 (ix (a1 >>> ((1 : Int32) &&& 31)))) = (0 : Int32)) → Q (-4 : Int32) s117) ∧ (¬ ((gI s117 1 (ix (a1 >>> ((1 : Int32) &&& 31)))) = (0 : Int32)) → inb 8 (a1 >>> ((1 : Int32) &&& 31)) ∧ (((gI s117 5 (ix (a1 >>> ((1 : Int32) &&& 31)))) < (gI s117 0 18)) → calI PP 4 11 [.ref 0, .int ((2 : Int32) * (a1 >>> ((1 : Int32) &&& 31)))] s117 (fun v135 s134 => calI PP 4 11 [.ref 0, .int (((2 : Int32) * (a1 >>> ((1 : Int32) &&& 31))) + (1 : Int32))] s134 (fun v138 s137 => inb 8 (a1 >>> ((1 : Int32) &&& 31)) ∧ inb 8 (a1 >>> ((1 : Int32) &&& 31)) ∧ inb 128 (((a1 >>> ((1 : Int32) &&& 31)) * (16 : Int32)) + (((gI s137 4 (ix (a1 >>> ((1 : Int32) &&& 31)))) + (gI s137 5 (ix (a1 >>> ((1 : Int32) &&& 31))))) &&& (15 : Int32))) ∧ inb 8 (a1 >>> ((1 : Int32) &&& 31)) ∧ inb 8 (a1 >>> ((1 : Int32) &&& 31)) ∧ calV PP 13 11 [.ref 0, .int ((2 : Int32) * (a1 >>> ((1 : Int32) &&& 31))), .int v135] (sI (sI s137 3 (ix (((a1 >>> ((1 : Int32) &&& 31)) * (16 : Int32)) + (((gI s137 4 (ix (a1 >>> ((1 : Int32) &&& 31)))) + (gI s137 5 (ix (a1 >>> ((1 : Int32) &&& 31))))) &&& (15 : Int32)))) (a2 &&& (255 : Int32))) 5 (ix (a1 >>> ((1 : Int32) &&& 31))) ((gI s137 5 (ix (a1 >>> ((1 : Int32) &&& 31)))) + (1 : Int32))) (fun s145 => calV PP 13 11 [.ref 0, .int (((2 : Int32) * (a1 >>> ((1 : Int32) &&& 31))) + (1 : Int32)), .int v138] s145 (fun s148 => Q (0 : Int32) s148))))) ∧ (¬ ((gI s117 5 (ix (a1 >>> ((1 : Int32) &&& 31)))) < (gI s117 0 18)) → Q (-2 : Int32) s117)))))) : calI PP 16 11 [.ref 0, .int a1, .int a2] s Q := by
  refine cal_of (me := cm16) (ls := [some (.ref 0), some (.int a1), some (.int a2), none, none, none, none]) rfl (Nat.le_of_ble_eq_true rfl) rfl ?_
  refine wpc_sl (n := 2) (c' := 11) (pc' := 2) (ls' := [some (.ref 0), some (.int a1), some (.int a2), none, none, none, none]) (st' := [.int a1, .ref 0]) (s' := s) rfl ?_
  refine wpc_callI (m' := 3) (me' := cm3) (as := [.int a1]) (r := []) rfl rfl rfl rfl rfl ⟨by decide, (by first | decide | exact Nat.le_of_ble_eq_true rfl), (by first | decide | exact Nat.le_of_ble_eq_true rfl), rfl⟩ (calI.mono h fun v118 s117 h119 => ?_)
  refine wpc_if (a := 14) (b := 8) rfl (by decide) rfl rfl (wpc_br (p := v118 = (0 : Int32)) ⟨fun hc120 => ?_, fun hc120 => ?_⟩)
  · have h121 := h119.1 hc120
    refine wpc_sl (n := 1) (c' := 11) (pc' := 15) (ls' := [some (.ref 0), some (.int a1), some (.int a2), none, none, none, none]) (st' := [.int (-1 : Int32)]) (s' := s117) rfl ?_
    exact wpc_ret rfl rfl (fun q => absurd q (by decide)) rfl ⟨(-1 : Int32), rfl, h121⟩
  · have h122 := h119.2 hc120
    refine wpc_sl (n := 3) (c' := 11) (pc' := 11) (ls' := [some (.ref 0), some (.int a1), some (.int a2), none, none, none, none]) (st' := [.int (a1 &&& (1 : Int32))]) (s' := s117) rfl ?_
    refine wpc_if (a := 16) (b := 14) rfl (by decide) rfl rfl (wpc_br (p := (a1 &&& (1 : Int32)) = (0 : Int32)) ⟨fun hc123 => ?_, fun hc123 => ?_⟩)
    · have h124 := h122.1 hc123
      refine wpc_sl (n := 1) (c' := 11) (pc' := 15) (ls' := [some (.ref 0), some (.int a1), some (.int a2), none, none, none, none]) (st' := [.int (-1 : Int32)]) (s' := s117) rfl ?_
      exact wpc_ret rfl rfl (fun q => absurd q (by decide)) rfl ⟨(-1 : Int32), rfl, h124⟩
    · have h125 := h122.2 hc123
      refine wpc_sl (n := 7) (c' := 11) (pc' := 25) (ls' := [some (.ref 0), some (.int a1), some (.int a2), some (.int (a1 >>> ((1 : Int32) &&& 31))), none, none, none]) (st' := [.int (a1 >>> ((1 : Int32) &&& 31)), .ref 1]) (s' := s117) rfl ?_
      refine wpc_ldaZ (a := 0) (N := 8) (v := (gI s117 1 (ix (a1 >>> ((1 : Int32) &&& 31))))) rfl rfl (by decide) h125.1 rfl ?_
      have h126 := h125.2
      refine wpc_if (a := 32) (b := 29) rfl (by decide) rfl rfl (wpc_br (p := (gI s117 1 (ix (a1 >>> ((1 : Int32) &&& 31)))) = (0 : Int32)) ⟨fun hc127 => ?_, fun hc127 => ?_⟩)
      · have h128 := h126.1 hc127
        refine wpc_sl (n := 1) (c' := 11) (pc' := 31) (ls' := [some (.ref 0), some (.int a1), some (.int a2), some (.int (a1 >>> ((1 : Int32) &&& 31))), none, none, none]) (st' := [.int (-4 : Int32)]) (s' := s117) rfl ?_
        exact wpc_ret rfl rfl (fun q => absurd q (by decide)) rfl ⟨(-4 : Int32), rfl, h128⟩
      · have h129 := h126.2 hc127
        refine wpc_sl (n := 3) (c' := 11) (pc' := 37) (ls' := [some (.ref 0), some (.int a1), some (.int a2), some (.int (a1 >>> ((1 : Int32) &&& 31))), none, none, none]) (st' := [.int (a1 >>> ((1 : Int32) &&& 31)), .ref 5]) (s' := s117) rfl ?_
        refine wpc_ldaI (a := 4) (N := 8) (v := (gI s117 5 (ix (a1 >>> ((1 : Int32) &&& 31))))) rfl rfl (by decide) h129.1 rfl ?_
        have h130 := h129.2
        refine wpc_sl (n := 2) (c' := 11) (pc' := 42) (ls' := [some (.ref 0), some (.int a1), some (.int a2), some (.int (a1 >>> ((1 : Int32) &&& 31))), none, none, none]) (st' := [.int (gI s117 0 18), .int (gI s117 5 (ix (a1 >>> ((1 : Int32) &&& 31))))]) (s' := s117) rfl ?_
        refine wpc_icmp (a := 48) (b := 45) rfl (by decide) rfl rfl (wpc_br (p := (gI s117 5 (ix (a1 >>> ((1 : Int32) &&& 31)))) < (gI s117 0 18)) ⟨fun hc131 => ?_, fun hc131 => ?_⟩)
        · have h132 := h130.1 hc131
          refine wpc_sl (n := 4) (c' := 11) (pc' := 52) (ls' := [some (.ref 0), some (.int a1), some (.int a2), some (.int (a1 >>> ((1 : Int32) &&& 31))), none, none, none]) (st' := [.int ((2 : Int32) * (a1 >>> ((1 : Int32) &&& 31))), .ref 0]) (s' := s117) rfl ?_
          refine wpc_callI (m' := 4) (me' := cm4) (as := [.int ((2 : Int32) * (a1 >>> ((1 : Int32) &&& 31)))]) (r := []) rfl rfl rfl rfl rfl ⟨by decide, (by first | decide | exact Nat.le_of_ble_eq_true rfl), (by first | decide | exact Nat.le_of_ble_eq_true rfl), rfl⟩ (calI.mono h132 fun v135 s134 h136 => ?_)
          refine wpc_sl (n := 7) (c' := 11) (pc' := 63) (ls' := [some (.ref 0), some (.int a1), some (.int a2), some (.int (a1 >>> ((1 : Int32) &&& 31))), some (.int v135), none, none]) (st' := [.int (((2 : Int32) * (a1 >>> ((1 : Int32) &&& 31))) + (1 : Int32)), .ref 0]) (s' := s134) rfl ?_
          refine wpc_callI (m' := 4) (me' := cm4) (as := [.int (((2 : Int32) * (a1 >>> ((1 : Int32) &&& 31))) + (1 : Int32))]) (r := []) rfl rfl rfl rfl rfl ⟨by decide, (by first | decide | exact Nat.le_of_ble_eq_true rfl), (by first | decide | exact Nat.le_of_ble_eq_true rfl), rfl⟩ (calI.mono h136 fun v138 s137 h139 => ?_)
          refine wpc_sl (n := 4) (c' := 11) (pc' := 73) (ls' := [some (.ref 0), some (.int a1), some (.int a2), some (.int (a1 >>> ((1 : Int32) &&& 31))), some (.int v135), some (.int v138), none]) (st' := [.int (a1 >>> ((1 : Int32) &&& 31)), .ref 4]) (s' := s137) rfl ?_
          refine wpc_ldaI (a := 3) (N := 8) (v := (gI s137 4 (ix (a1 >>> ((1 : Int32) &&& 31))))) rfl rfl (by decide) h139.1 rfl ?_
          have h140 := h139.2
          refine wpc_sl (n := 3) (c' := 11) (pc' := 79) (ls' := [some (.ref 0), some (.int a1), some (.int a2), some (.int (a1 >>> ((1 : Int32) &&& 31))), some (.int v135), some (.int v138), none]) (st' := [.int (a1 >>> ((1 : Int32) &&& 31)), .ref 5, .int (gI s137 4 (ix (a1 >>> ((1 : Int32) &&& 31))))]) (s' := s137) rfl ?_
          refine wpc_ldaI (a := 4) (N := 8) (v := (gI s137 5 (ix (a1 >>> ((1 : Int32) &&& 31))))) rfl rfl (by decide) h140.1 rfl ?_
          have h141 := h140.2
          refine wpc_sl (n := 14) (c' := 11) (pc' := 102) (ls' := [some (.ref 0), some (.int a1), some (.int a2), some (.int (a1 >>> ((1 : Int32) &&& 31))), some (.int v135), some (.int v138), some (.int (((gI s137 4 (ix (a1 >>> ((1 : Int32) &&& 31)))) + (gI s137 5 (ix (a1 >>> ((1 : Int32) &&& 31))))) &&& (15 : Int32)))]) (st' := [.int (a2 &&& (255 : Int32)), .int (((a1 >>> ((1 : Int32) &&& 31)) * (16 : Int32)) + (((gI s137 4 (ix (a1 >>> ((1 : Int32) &&& 31)))) + (gI s137 5 (ix (a1 >>> ((1 : Int32) &&& 31))))) &&& (15 : Int32))), .ref 3]) (s' := s137) rfl ?_
          refine wpc_staI (a := 2) (N := 128) (s' := (sI s137 3 (ix (((a1 >>> ((1 : Int32) &&& 31)) * (16 : Int32)) + (((gI s137 4 (ix (a1 >>> ((1 : Int32) &&& 31)))) + (gI s137 5 (ix (a1 >>> ((1 : Int32) &&& 31))))) &&& (15 : Int32)))) (a2 &&& (255 : Int32)))) rfl rfl (by decide) h141.1 rfl ?_
          have h142 := h141.2
          refine wpc_sl (n := 6) (c' := 11) (pc' := 113) (ls' := [some (.ref 0), some (.int a1), some (.int a2), some (.int (a1 >>> ((1 : Int32) &&& 31))), some (.int v135), some (.int v138), some (.int (((gI s137 4 (ix (a1 >>> ((1 : Int32) &&& 31)))) + (gI s137 5 (ix (a1 >>> ((1 : Int32) &&& 31))))) &&& (15 : Int32)))]) (st' := [.int (a1 >>> ((1 : Int32) &&& 31)), .ref 5, .int (a1 >>> ((1 : Int32) &&& 31)), .ref 5]) (s' := (sI s137 3 (ix (((a1 >>> ((1 : Int32) &&& 31)) * (16 : Int32)) + (((gI s137 4 (ix (a1 >>> ((1 : Int32) &&& 31)))) + (gI s137 5 (ix (a1 >>> ((1 : Int32) &&& 31))))) &&& (15 : Int32)))) (a2 &&& (255 : Int32)))) rfl ?_
          refine wpc_ldaI (a := 4) (N := 8) (v := (gI s137 5 (ix (a1 >>> ((1 : Int32) &&& 31))))) rfl rfl (by decide) h142.1 rfl ?_
          have h143 := h142.2
          refine wpc_sl (n := 2) (c' := 11) (pc' := 116) (ls' := [some (.ref 0), some (.int a1), some (.int a2), some (.int (a1 >>> ((1 : Int32) &&& 31))), some (.int v135), some (.int v138), some (.int (((gI s137 4 (ix (a1 >>> ((1 : Int32) &&& 31)))) + (gI s137 5 (ix (a1 >>> ((1 : Int32) &&& 31))))) &&& (15 : Int32)))]) (st' := [.int ((gI s137 5 (ix (a1 >>> ((1 : Int32) &&& 31)))) + (1 : Int32)), .int (a1 >>> ((1 : Int32) &&& 31)), .ref 5]) (s' := (sI s137 3 (ix (((a1 >>> ((1 : Int32) &&& 31)) * (16 : Int32)) + (((gI s137 4 (ix (a1 >>> ((1 : Int32) &&& 31)))) + (gI s137 5 (ix (a1 >>> ((1 : Int32) &&& 31))))) &&& (15 : Int32)))) (a2 &&& (255 : Int32)))) rfl ?_
          refine wpc_staI (a := 4) (N := 8) (s' := (sI (sI s137 3 (ix (((a1 >>> ((1 : Int32) &&& 31)) * (16 : Int32)) + (((gI s137 4 (ix (a1 >>> ((1 : Int32) &&& 31)))) + (gI s137 5 (ix (a1 >>> ((1 : Int32) &&& 31))))) &&& (15 : Int32)))) (a2 &&& (255 : Int32))) 5 (ix (a1 >>> ((1 : Int32) &&& 31))) ((gI s137 5 (ix (a1 >>> ((1 : Int32) &&& 31)))) + (1 : Int32)))) rfl rfl (by decide) h143.1 rfl ?_
          have h144 := h143.2
          refine wpc_sl (n := 5) (c' := 11) (pc' := 123) (ls' := [some (.ref 0), some (.int a1), some (.int a2), some (.int (a1 >>> ((1 : Int32) &&& 31))), some (.int v135), some (.int v138), some (.int (((gI s137 4 (ix (a1 >>> ((1 : Int32) &&& 31)))) + (gI s137 5 (ix (a1 >>> ((1 : Int32) &&& 31))))) &&& (15 : Int32)))]) (st' := [.int v135, .int ((2 : Int32) * (a1 >>> ((1 : Int32) &&& 31))), .ref 0]) (s' := (sI (sI s137 3 (ix (((a1 >>> ((1 : Int32) &&& 31)) * (16 : Int32)) + (((gI s137 4 (ix (a1 >>> ((1 : Int32) &&& 31)))) + (gI s137 5 (ix (a1 >>> ((1 : Int32) &&& 31))))) &&& (15 : Int32)))) (a2 &&& (255 : Int32))) 5 (ix (a1 >>> ((1 : Int32) &&& 31))) ((gI s137 5 (ix (a1 >>> ((1 : Int32) &&& 31)))) + (1 : Int32)))) rfl ?_
          refine wpc_callV (m' := 13) (me' := cm13) (as := [.int ((2 : Int32) * (a1 >>> ((1 : Int32) &&& 31))), .int v135]) (r := []) rfl rfl rfl rfl rfl ⟨by decide, (by first | decide | exact Nat.le_of_ble_eq_true rfl), (by first | decide | exact Nat.le_of_ble_eq_true rfl), rfl⟩ (calV.mono h144 fun s145 h147 => ?_)
          refine wpc_sl (n := 7) (c' := 11) (pc' := 134) (ls' := [some (.ref 0), some (.int a1), some (.int a2), some (.int (a1 >>> ((1 : Int32) &&& 31))), some (.int v135), some (.int v138), some (.int (((gI s137 4 (ix (a1 >>> ((1 : Int32) &&& 31)))) + (gI s137 5 (ix (a1 >>> ((1 : Int32) &&& 31))))) &&& (15 : Int32)))]) (st' := [.int v138, .int (((2 : Int32) * (a1 >>> ((1 : Int32) &&& 31))) + (1 : Int32)), .ref 0]) (s' := s145) rfl ?_
          refine wpc_callV (m' := 13) (me' := cm13) (as := [.int (((2 : Int32) * (a1 >>> ((1 : Int32) &&& 31))) + (1 : Int32)), .int v138]) (r := []) rfl rfl rfl rfl rfl ⟨by decide, (by first | decide | exact Nat.le_of_ble_eq_true rfl), (by first | decide | exact Nat.le_of_ble_eq_true rfl), rfl⟩ (calV.mono h147 fun s148 h150 => ?_)
          refine wpc_sl (n := 1) (c' := 11) (pc' := 138) (ls' := [some (.ref 0), some (.int a1), some (.int a2), some (.int (a1 >>> ((1 : Int32) &&& 31))), some (.int v135), some (.int v138), some (.int (((gI s137 4 (ix (a1 >>> ((1 : Int32) &&& 31)))) + (gI s137 5 (ix (a1 >>> ((1 : Int32) &&& 31))))) &&& (15 : Int32)))]) (st' := [.int (0 : Int32)]) (s' := s148) rfl ?_
          exact wpc_ret rfl rfl (fun q => absurd q (by decide)) rfl ⟨(0 : Int32), rfl, h150⟩
        · have h133 := h130.2 hc131
          refine wpc_sl (n := 1) (c' := 11) (pc' := 47) (ls' := [some (.ref 0), some (.int a1), some (.int a2), some (.int (a1 >>> ((1 : Int32) &&& 31))), none, none, none]) (st' := [.int (-2 : Int32)]) (s' := s117) rfl ?_
          exact wpc_ret rfl rfl (fun q => absurd q (by decide)) rfl ⟨(-2 : Int32), rfl, h133⟩
theorem c17_in (a1 : Int32) (s : St) (Q : Int32 → St → Prop) (h : calI PP 3 11 [.ref 0, .int a1] s (fun v233 s232 => ((v233 = (0 : Int32)) → Q (-1 : Int32) s232) ∧ (¬ (v233 = (0 : Int32)) → (((a1 &&& (1 : Int32)) = (0 : Int32)) → inb 8 (a1 >>> ((1 : Int32) &&& 31)) ∧ (((gI s232 5 (ix (a1 >>> ((1 : Int32) &&& 31)))) = (0 : Int32)) → inb 8 (a1 >>> ((1 : Int32) &&& 31)) ∧ (((gI s232 2 (ix (a1 >>> ((1 : Int32) &&& 31)))) = (0 : Int32)) → Q (-3 : Int32) s232) ∧ (¬ ((gI s232 2 (ix (a1 >>> ((1 : Int32) &&& 31)))) = (0 : Int32)) → Q (-2 : Int32) s232)) ∧ (¬ ((gI s232 5 (ix (a1 >>> ((1 : Int32) &&& 31)))) = (0 : Int32)) → calI PP 4 11 [.ref 0, .int ((2 : Int32) * (a1 >>> ((1 : Int32) &&& 31)))] s232 (fun v250 s249 => calI PP 4 11 [.ref 0, .int (((2 : Int32) * (a1 >>> ((1 : Int32) &&& 31))) + (1 : Int32))] s249 (fun v253 s252 => inb 8 (a1 >>> ((1 : Int32) &&& 31)) ∧ inb 128 (((a1 >>> ((1 : Int32) &&& 31)) * (16 : Int32)) + ((gI s252 4 (ix (a1 >>> ((1 : Int32) &&& 31)))) &&& (15 : Int32))) ∧ inb 8 (a1 >>> ((1 : Int32) &&& 31)) ∧ inb 8 (a1 >>> ((1 : Int32) &&& 31)) ∧ inb 8 (a1 >>> ((1 : Int32) &&& 31)) ∧ inb 8 (a1 >>> ((1 : Int32) &&& 31)) ∧ calV PP 13 11 [.ref 0, .int ((2 : Int32) * (a1 >>> ((1 : Int32) &&& 31))), .int v250] (sI (sI s252 4 (ix (a1 >>> ((1 : Int32) &&& 31))) (((gI s252 4 (ix (a1 >>> ((1 : Int32) &&& 31)))) + (1 : Int32)) &&& (15 : Int32))) 5 (ix (a1 >>> ((1 : Int32) &&& 31))) ((gI s252 5 (ix (a1 >>> ((1 : Int32) &&& 31)))) - (1 : Int32))) (fun s261 => calV PP 13 11 [.ref 0, .int (((2 : Int32) * (a1 >>> ((1 : Int32) &&& 31))) + (1 : Int32)), .int v253] s261 (fun s264 => Q (gI s252 3 (ix (((a1 >>> ((1 : Int32) &&& 31)) * (16 : Int32)) + ((gI s252 4 (ix (a1 >>> ((1 : Int32) &&& 31)))) &&& (15 : Int32))))) s264)))))) ∧ (¬ ((a1 &&& (1 : Int32)) = (0 : Int32)) → Q (-1 : Int32) s232)))) : calI PP 17 11 [.ref 0, .int a1] s Q := by
  refine cal_of (me := cm17) (ls := [some (.ref 0), some (.int a1), none, none, none, none]) rfl (Nat.le_of_ble_eq_true rfl) rfl ?_
  refine wpc_sl (n := 2) (c' := 11) (pc' := 2) (ls' := [some (.ref 0), some (.int a1), none, none, none, none]) (st' := [.int a1, .ref 0]) (s' := s) rfl ?_
  refine wpc_callI (m' := 3) (me' := cm3) (as := [.int a1]) (r := []) rfl rfl rfl rfl rfl ⟨by decide, (by first | decide | exact Nat.le_of_ble_eq_true rfl), (by first | decide | exact Nat.le_of_ble_eq_true rfl), rfl⟩ (calI.mono h fun v233 s232 h234 => ?_)
  refine wpc_if (a := 14) (b := 8) rfl (by decide) rfl rfl (wpc_br (p := v233 = (0 : Int32)) ⟨fun hc235 => ?_, fun hc235 => ?_⟩)
  · have h236 := h234.1 hc235
    refine wpc_sl (n := 1) (c' := 11) (pc' := 15) (ls' := [some (.ref 0), some (.int a1), none, none, none, none]) (st' := [.int (-1 : Int32)]) (s' := s232) rfl ?_
    exact wpc_ret rfl rfl (fun q => absurd q (by decide)) rfl ⟨(-1 : Int32), rfl, h236⟩
  · have h237 := h234.2 hc235
    refine wpc_sl (n := 3) (c' := 11) (pc' := 11) (ls' := [some (.ref 0), some (.int a1), none, none, none, none]) (st' := [.int (a1 &&& (1 : Int32))]) (s' := s232) rfl ?_
    refine wpc_if (a := 16) (b := 14) rfl (by decide) rfl rfl (wpc_br (p := (a1 &&& (1 : Int32)) = (0 : Int32)) ⟨fun hc238 => ?_, fun hc238 => ?_⟩)
    · have h239 := h237.1 hc238
      refine wpc_sl (n := 7) (c' := 11) (pc' := 25) (ls' := [some (.ref 0), some (.int a1), some (.int (a1 >>> ((1 : Int32) &&& 31))), none, none, none]) (st' := [.int (a1 >>> ((1 : Int32) &&& 31)), .ref 5]) (s' := s232) rfl ?_
      refine wpc_ldaI (a := 4) (N := 8) (v := (gI s232 5 (ix (a1 >>> ((1 : Int32) &&& 31))))) rfl rfl (by decide) h239.1 rfl ?_
      have h241 := h239.2
      refine wpc_if (a := 44) (b := 29) rfl (by decide) rfl rfl (wpc_br (p := (gI s232 5 (ix (a1 >>> ((1 : Int32) &&& 31)))) = (0 : Int32)) ⟨fun hc242 => ?_, fun hc242 => ?_⟩)
      · have h243 := h241.1 hc242
        refine wpc_sl (n := 3) (c' := 11) (pc' := 34) (ls' := [some (.ref 0), some (.int a1), some (.int (a1 >>> ((1 : Int32) &&& 31))), none, none, none]) (st' := [.int (a1 >>> ((1 : Int32) &&& 31)), .ref 2]) (s' := s232) rfl ?_
        refine wpc_ldaZ (a := 1) (N := 8) (v := (gI s232 2 (ix (a1 >>> ((1 : Int32) &&& 31))))) rfl rfl (by decide) h243.1 rfl ?_
        have h245 := h243.2
        refine wpc_if (a := 41) (b := 38) rfl (by decide) rfl rfl (wpc_br (p := (gI s232 2 (ix (a1 >>> ((1 : Int32) &&& 31)))) = (0 : Int32)) ⟨fun hc246 => ?_, fun hc246 => ?_⟩)
        · have h247 := h245.1 hc246
          refine wpc_sl (n := 1) (c' := 11) (pc' := 43) (ls' := [some (.ref 0), some (.int a1), some (.int (a1 >>> ((1 : Int32) &&& 31))), none, none, none]) (st' := [.int (-3 : Int32)]) (s' := s232) rfl ?_
          exact wpc_ret rfl rfl (fun q => absurd q (by decide)) rfl ⟨(-3 : Int32), rfl, h247⟩
        · have h248 := h245.2 hc246
          refine wpc_sl (n := 1) (c' := 11) (pc' := 40) (ls' := [some (.ref 0), some (.int a1), some (.int (a1 >>> ((1 : Int32) &&& 31))), none, none, none]) (st' := [.int (-2 : Int32)]) (s' := s232) rfl ?_
          exact wpc_ret rfl rfl (fun q => absurd q (by decide)) rfl ⟨(-2 : Int32), rfl, h248⟩
      · have h244 := h241.2 hc242
        refine wpc_sl (n := 4) (c' := 11) (pc' := 48) (ls' := [some (.ref 0), some (.int a1), some (.int (a1 >>> ((1 : Int32) &&& 31))), none, none, none]) (st' := [.int ((2 : Int32) * (a1 >>> ((1 : Int32) &&& 31))), .ref 0]) (s' := s232) rfl ?_
        refine wpc_callI (m' := 4) (me' := cm4) (as := [.int ((2 : Int32) * (a1 >>> ((1 : Int32) &&& 31)))]) (r := []) rfl rfl rfl rfl rfl ⟨by decide, (by first | decide | exact Nat.le_of_ble_eq_true rfl), (by first | decide | exact Nat.le_of_ble_eq_true rfl), rfl⟩ (calI.mono h244 fun v250 s249 h251 => ?_)
        refine wpc_sl (n := 7) (c' := 11) (pc' := 58) (ls' := [some (.ref 0), some (.int a1), some (.int (a1 >>> ((1 : Int32) &&& 31))), some (.int v250), none, none]) (st' := [.int (((2 : Int32) * (a1 >>> ((1 : Int32) &&& 31))) + (1 : Int32)), .ref 0]) (s' := s249) rfl ?_
        refine wpc_callI (m' := 4) (me' := cm4) (as := [.int (((2 : Int32) * (a1 >>> ((1 : Int32) &&& 31))) + (1 : Int32))]) (r := []) rfl rfl rfl rfl rfl ⟨by decide, (by first | decide | exact Nat.le_of_ble_eq_true rfl), (by first | decide | exact Nat.le_of_ble_eq_true rfl), rfl⟩ (calI.mono h251 fun v253 s252 h254 => ?_)
        refine wpc_sl (n := 9) (c' := 11) (pc' := 76) (ls' := [some (.ref 0), some (.int a1), some (.int (a1 >>> ((1 : Int32) &&& 31))), some (.int v250), some (.int v253), none]) (st' := [.int (a1 >>> ((1 : Int32) &&& 31)), .ref 4, .int ((a1 >>> ((1 : Int32) &&& 31)) * (16 : Int32)), .ref 3]) (s' := s252) rfl ?_
        refine wpc_ldaI (a := 3) (N := 8) (v := (gI s252 4 (ix (a1 >>> ((1 : Int32) &&& 31))))) rfl rfl (by decide) h254.1 rfl ?_
        have h255 := h254.2
        refine wpc_sl (n := 3) (c' := 11) (pc' := 81) (ls' := [some (.ref 0), some (.int a1), some (.int (a1 >>> ((1 : Int32) &&& 31))), some (.int v250), some (.int v253), none]) (st' := [.int (((a1 >>> ((1 : Int32) &&& 31)) * (16 : Int32)) + ((gI s252 4 (ix (a1 >>> ((1 : Int32) &&& 31)))) &&& (15 : Int32))), .ref 3]) (s' := s252) rfl ?_
        refine wpc_ldaI (a := 2) (N := 128) (v := (gI s252 3 (ix (((a1 >>> ((1 : Int32) &&& 31)) * (16 : Int32)) + ((gI s252 4 (ix (a1 >>> ((1 : Int32) &&& 31)))) &&& (15 : Int32)))))) rfl rfl (by decide) h255.1 rfl ?_
        have h256 := h255.2
        refine wpc_sl (n := 7) (c' := 11) (pc' := 94) (ls' := [some (.ref 0), some (.int a1), some (.int (a1 >>> ((1 : Int32) &&& 31))), some (.int v250), some (.int v253), some (.int (gI s252 3 (ix (((a1 >>> ((1 : Int32) &&& 31)) * (16 : Int32)) + ((gI s252 4 (ix (a1 >>> ((1 : Int32) &&& 31)))) &&& (15 : Int32))))))]) (st' := [.int (a1 >>> ((1 : Int32) &&& 31)), .ref 4, .int (a1 >>> ((1 : Int32) &&& 31)), .ref 4]) (s' := s252) rfl ?_
        refine wpc_ldaI (a := 3) (N := 8) (v := (gI s252 4 (ix (a1 >>> ((1 : Int32) &&& 31))))) rfl rfl (by decide) h256.1 rfl ?_
        have h257 := h256.2
        refine wpc_sl (n := 4) (c' := 11) (pc' := 100) (ls' := [some (.ref 0), some (.int a1), some (.int (a1 >>> ((1 : Int32) &&& 31))), some (.int v250), some (.int v253), some (.int (gI s252 3 (ix (((a1 >>> ((1 : Int32) &&& 31)) * (16 : Int32)) + ((gI s252 4 (ix (a1 >>> ((1 : Int32) &&& 31)))) &&& (15 : Int32))))))]) (st' := [.int (((gI s252 4 (ix (a1 >>> ((1 : Int32) &&& 31)))) + (1 : Int32)) &&& (15 : Int32)), .int (a1 >>> ((1 : Int32) &&& 31)), .ref 4]) (s' := s252) rfl ?_
        refine wpc_staI (a := 3) (N := 8) (s' := (sI s252 4 (ix (a1 >>> ((1 : Int32) &&& 31))) (((gI s252 4 (ix (a1 >>> ((1 : Int32) &&& 31)))) + (1 : Int32)) &&& (15 : Int32)))) rfl rfl (by decide) h257.1 rfl ?_
        have h258 := h257.2
        refine wpc_sl (n := 6) (c' := 11) (pc' := 111) (ls' := [some (.ref 0), some (.int a1), some (.int (a1 >>> ((1 : Int32) &&& 31))), some (.int v250), some (.int v253), some (.int (gI s252 3 (ix (((a1 >>> ((1 : Int32) &&& 31)) * (16 : Int32)) + ((gI s252 4 (ix (a1 >>> ((1 : Int32) &&& 31)))) &&& (15 : Int32))))))]) (st' := [.int (a1 >>> ((1 : Int32) &&& 31)), .ref 5, .int (a1 >>> ((1 : Int32) &&& 31)), .ref 5]) (s' := (sI s252 4 (ix (a1 >>> ((1 : Int32) &&& 31))) (((gI s252 4 (ix (a1 >>> ((1 : Int32) &&& 31)))) + (1 : Int32)) &&& (15 : Int32)))) rfl ?_
        refine wpc_ldaI (a := 4) (N := 8) (v := (gI s252 5 (ix (a1 >>> ((1 : Int32) &&& 31))))) rfl rfl (by decide) h258.1 rfl ?_
        have h259 := h258.2
        refine wpc_sl (n := 2) (c' := 11) (pc' := 114) (ls' := [some (.ref 0), some (.int a1), some (.int (a1 >>> ((1 : Int32) &&& 31))), some (.int v250), some (.int v253), some (.int (gI s252 3 (ix (((a1 >>> ((1 : Int32) &&& 31)) * (16 : Int32)) + ((gI s252 4 (ix (a1 >>> ((1 : Int32) &&& 31)))) &&& (15 : Int32))))))]) (st' := [.int ((gI s252 5 (ix (a1 >>> ((1 : Int32) &&& 31)))) - (1 : Int32)), .int (a1 >>> ((1 : Int32) &&& 31)), .ref 5]) (s' := (sI s252 4 (ix (a1 >>> ((1 : Int32) &&& 31))) (((gI s252 4 (ix (a1 >>> ((1 : Int32) &&& 31)))) + (1 : Int32)) &&& (15 : Int32)))) rfl ?_
        refine wpc_staI (a := 4) (N := 8) (s' := (sI (sI s252 4 (ix (a1 >>> ((1 : Int32) &&& 31))) (((gI s252 4 (ix (a1 >>> ((1 : Int32) &&& 31)))) + (1 : Int32)) &&& (15 : Int32))) 5 (ix (a1 >>> ((1 : Int32) &&& 31))) ((gI s252 5 (ix (a1 >>> ((1 : Int32) &&& 31)))) - (1 : Int32)))) rfl rfl (by decide) h259.1 rfl ?_
        have h260 := h259.2
        refine wpc_sl (n := 5) (c' := 11) (pc' := 120) (ls' := [some (.ref 0), some (.int a1), some (.int (a1 >>> ((1 : Int32) &&& 31))), some (.int v250), some (.int v253), some (.int (gI s252 3 (ix (((a1 >>> ((1 : Int32) &&& 31)) * (16 : Int32)) + ((gI s252 4 (ix (a1 >>> ((1 : Int32) &&& 31)))) &&& (15 : Int32))))))]) (st' := [.int v250, .int ((2 : Int32) * (a1 >>> ((1 : Int32) &&& 31))), .ref 0]) (s' := (sI (sI s252 4 (ix (a1 >>> ((1 : Int32) &&& 31))) (((gI s252 4 (ix (a1 >>> ((1 : Int32) &&& 31)))) + (1 : Int32)) &&& (15 : Int32))) 5 (ix (a1 >>> ((1 : Int32) &&& 31))) ((gI s252 5 (ix (a1 >>> ((1 : Int32) &&& 31)))) - (1 : Int32)))) rfl ?_
        refine wpc_callV (m' := 13) (me' := cm13) (as := [.int ((2 : Int32) * (a1 >>> ((1 : Int32) &&& 31))), .int v250]) (r := []) rfl rfl rfl rfl rfl ⟨by decide, (by first | decide | exact Nat.le_of_ble_eq_true rfl), (by first | decide | exact Nat.le_of_ble_eq_true rfl), rfl⟩ (calV.mono h260 fun s261 h263 => ?_)
        refine wpc_sl (n := 7) (c' := 11) (pc' := 131) (ls' := [some (.ref 0), some (.int a1), some (.int (a1 >>> ((1 : Int32) &&& 31))), some (.int v250), some (.int v253), some (.int (gI s252 3 (ix (((a1 >>> ((1 : Int32) &&& 31)) * (16 : Int32)) + ((gI s252 4 (ix (a1 >>> ((1 : Int32) &&& 31)))) &&& (15 : Int32))))))]) (st' := [.int v253, .int (((2 : Int32) * (a1 >>> ((1 : Int32) &&& 31))) + (1 : Int32)), .ref 0]) (s' := s261) rfl ?_
        refine wpc_callV (m' := 13) (me' := cm13) (as := [.int (((2 : Int32) * (a1 >>> ((1 : Int32) &&& 31))) + (1 : Int32)), .int v253]) (r := []) rfl rfl rfl rfl rfl ⟨by decide, (by first | decide | exact Nat.le_of_ble_eq_true rfl), (by first | decide | exact Nat.le_of_ble_eq_true rfl), rfl⟩ (calV.mono h263 fun s264 h266 => ?_)
        refine wpc_sl (n := 1) (c' := 11) (pc' := 136) (ls' := [some (.ref 0), some (.int a1), some (.int (a1 >>> ((1 : Int32) &&& 31))), some (.int v250), some (.int v253), some (.int (gI s252 3 (ix (((a1 >>> ((1 : Int32) &&& 31)) * (16 : Int32)) + ((gI s252 4 (ix (a1 >>> ((1 : Int32) &&& 31)))) &&& (15 : Int32))))))]) (st' := [.int (gI s252 3 (ix (((a1 >>> ((1 : Int32) &&& 31)) * (16 : Int32)) + ((gI s252 4 (ix (a1 >>> ((1 : Int32) &&& 31)))) &&& (15 : Int32)))))]) (s' := s264) rfl ?_
        exact wpc_ret rfl rfl (fun q => absurd q (by decide)) rfl ⟨(gI s252 3 (ix (((a1 >>> ((1 : Int32) &&& 31)) * (16 : Int32)) + ((gI s252 4 (ix (a1 >>> ((1 : Int32) &&& 31)))) &&& (15 : Int32))))), rfl, h266⟩
    · have h240 := h237.2 hc238
      refine wpc_sl (n := 1) (c' := 11) (pc' := 15) (ls' := [some (.ref 0), some (.int a1), none, none, none, none]) (st' := [.int (-1 : Int32)]) (s' := s232) rfl ?_
      exact wpc_ret rfl rfl (fun q => absurd q (by decide)) rfl ⟨(-1 : Int32), rfl, h240⟩
theorem c11_in (a1 : Int32) (s : St) (Q : St → Prop) (h : inb 64 a1 ∧ inb 64 a1 ∧ inb 64 a1 ∧ inb 64 a1 ∧ Q (sI (sI (sI (sI s 6 (ix a1) (0 : Int32)) 7 (ix a1) (0 : Int32)) 8 (ix a1) (0 : Int32)) 9 (ix a1) (0 : Int32))) : calV PP 11 11 [.ref 0, .int a1] s Q := by
  refine cal_of (me := cm11) (ls := [some (.ref 0), some (.int a1)]) rfl (Nat.le_of_ble_eq_true rfl) rfl ?_
  refine wpc_sl (n := 4) (c' := 11) (pc' := 6) (ls' := [some (.ref 0), some (.int a1)]) (st' := [.int (0 : Int32), .int a1, .ref 6]) (s' := s) rfl ?_
  refine wpc_staZ (a := 5) (N := 64) (s' := (sI s 6 (ix a1) (0 : Int32))) rfl rfl (by decide) h.1 rfl ?_
  have h302 := h.2
  refine wpc_sl (n := 4) (c' := 11) (pc' := 13) (ls' := [some (.ref 0), some (.int a1)]) (st' := [.int (0 : Int32), .int a1, .ref 7]) (s' := (sI s 6 (ix a1) (0 : Int32))) rfl ?_
  refine wpc_staI (a := 6) (N := 64) (s' := (sI (sI s 6 (ix a1) (0 : Int32)) 7 (ix a1) (0 : Int32))) rfl rfl (by decide) h302.1 rfl ?_
  have h303 := h302.2
  refine wpc_sl (n := 4) (c' := 11) (pc' := 20) (ls' := [some (.ref 0), some (.int a1)]) (st' := [.int (0 : Int32), .int a1, .ref 8]) (s' := (sI (sI s 6 (ix a1) (0 : Int32)) 7 (ix a1) (0 : Int32))) rfl ?_
  refine wpc_staZ (a := 7) (N := 64) (s' := (sI (sI (sI s 6 (ix a1) (0 : Int32)) 7 (ix a1) (0 : Int32)) 8 (ix a1) (0 : Int32))) rfl rfl (by decide) h303.1 rfl ?_
  have h304 := h303.2
  refine wpc_sl (n := 4) (c' := 11) (pc' := 27) (ls' := [some (.ref 0), some (.int a1)]) (st' := [.int (0 : Int32), .int a1, .ref 9]) (s' := (sI (sI (sI s 6 (ix a1) (0 : Int32)) 7 (ix a1) (0 : Int32)) 8 (ix a1) (0 : Int32))) rfl ?_
  refine wpc_staI (a := 8) (N := 64) (s' := (sI (sI (sI (sI s 6 (ix a1) (0 : Int32)) 7 (ix a1) (0 : Int32)) 8 (ix a1) (0 : Int32)) 9 (ix a1) (0 : Int32))) rfl rfl (by decide) h304.1 rfl ?_
  have h305 := h304.2
  exact wpc_ret rfl rfl (fun q => absurd q (by decide)) rfl ⟨rfl, h305⟩
theorem c12_in (a1 : Int32) (s : St) (Q : St → Prop) (h : wpcV PP 12 cm12 11 2 [some (.ref 0), some (.int a1), some (.int (0 : Int32))] [] s Q) : calV PP 12 11 [.ref 0, .int a1] s Q := by
  refine cal_of (me := cm12) (ls := [some (.ref 0), some (.int a1), none]) rfl (Nat.le_of_ble_eq_true rfl) rfl ?_
  refine wpc_sl (n := 2) (c' := 11) (pc' := 2) (ls' := [some (.ref 0), some (.int a1), some (.int (0 : Int32))]) (st' := []) (s' := s) rfl ?_
  exact h
theorem c12_2 (x1 : Int32) (x2 : Int32) (s : St) (Q : St → Prop) (h : ((x2 < (gI s 0 19)) → calI PP 8 11 [.ref 0, .int x2, .int x1] s (fun v297 s296 => calV PP 11 11 [.ref 0, .int v297] s296 (fun s299 => wpcV PP 12 cm12 11 2 [some (.ref 0), some (.int x1), some (.int (x2 + (1 : Int32)))] [] s299 Q))) ∧ (¬ (x2 < (gI s 0 19)) → Q s)) : wpcV PP 12 cm12 11 2 [some (.ref 0), some (.int x1), some (.int x2)] [] s Q := by
  refine wpc_sl (n := 3) (c' := 11) (pc' := 7) (ls' := [some (.ref 0), some (.int x1), some (.int x2)]) (st' := [.int (gI s 0 19), .int x2]) (s' := s) rfl ?_
  refine wpc_icmp (a := 26) (b := 10) rfl (by decide) rfl rfl (wpc_br (p := x2 < (gI s 0 19)) ⟨fun hc293 => ?_, fun hc293 => ?_⟩)
  · have h294 := h.1 hc293
    refine wpc_sl (n := 4) (c' := 11) (pc' := 14) (ls' := [some (.ref 0), some (.int x1), some (.int x2)]) (st' := [.int x1, .int x2, .ref 0, .ref 0]) (s' := s) rfl ?_
    refine wpc_callI (m' := 8) (me' := cm8) (as := [.int x2, .int x1]) (r := [.ref 0]) rfl rfl rfl rfl rfl ⟨by decide, (by first | decide | exact Nat.le_of_ble_eq_true rfl), (by first | decide | exact Nat.le_of_ble_eq_true rfl), rfl⟩ (calI.mono h294 fun v297 s296 h298 => ?_)
    refine wpc_callV (m' := 11) (me' := cm11) (as := [.int v297]) (r := []) rfl rfl rfl rfl rfl ⟨by decide, (by first | decide | exact Nat.le_of_ble_eq_true rfl), (by first | decide | exact Nat.le_of_ble_eq_true rfl), rfl⟩ (calV.mono h298 fun s299 h301 => ?_)
    refine wpc_sl (n := 2) (c' := 11) (pc' := 2) (ls' := [some (.ref 0), some (.int x1), some (.int (x2 + (1 : Int32)))]) (st' := []) (s' := s299) rfl ?_
    exact h301
  · have h295 := h.2 hc293
    exact wpc_ret rfl rfl (fun q => absurd q (by decide)) rfl ⟨rfl, h295⟩
theorem c18_in (a1 : Int32) (s : St) (Q : Int32 → St → Prop) (h : calI PP 3 11 [.ref 0, .int a1] s (fun v268 s267 => ((v268 = (0 : Int32)) → Q (-1 : Int32) s267) ∧ (¬ (v268 = (0 : Int32)) → calI PP 3 11 [.ref 0, .int (a1 ^^^ (1 : Int32))] s267 (fun v274 s273 => ((v274 = (0 : Int32)) → wpcI PP 18 cm18 11 36 [some (.ref 0), some (.int a1), some (.int (a1 >>> ((1 : Int32) &&& 31))), some (.int (a1 ^^^ (1 : Int32))), some (.int (0 : Int32))] [] s273 Q) ∧ (¬ (v274 = (0 : Int32)) → calI PP 4 11 [.ref 0, .int (a1 ^^^ (1 : Int32))] s273 (fun v280 s279 => wpcI PP 18 cm18 11 36 [some (.ref 0), some (.int a1), some (.int (a1 >>> ((1 : Int32) &&& 31))), some (.int (a1 ^^^ (1 : Int32))), some (.int v280)] [] s279 Q)))))) : calI PP 18 11 [.ref 0, .int a1] s Q := by
  refine cal_of (me := cm18) (ls := [some (.ref 0), some (.int a1), none, none, none]) rfl (Nat.le_of_ble_eq_true rfl) rfl ?_
  refine wpc_sl (n := 2) (c' := 11) (pc' := 2) (ls' := [some (.ref 0), some (.int a1), none, none, none]) (st' := [.int a1, .ref 0]) (s' := s) rfl ?_
  refine wpc_callI (m' := 3) (me' := cm3) (as := [.int a1]) (r := []) rfl rfl rfl rfl rfl ⟨by decide, (by first | decide | exact Nat.le_of_ble_eq_true rfl), (by first | decide | exact Nat.le_of_ble_eq_true rfl), rfl⟩ (calI.mono h fun v268 s267 h269 => ?_)
  refine wpc_if (a := 10) (b := 8) rfl (by decide) rfl rfl (wpc_br (p := v268 = (0 : Int32)) ⟨fun hc270 => ?_, fun hc270 => ?_⟩)
  · have h271 := h269.1 hc270
    refine wpc_sl (n := 1) (c' := 11) (pc' := 9) (ls' := [some (.ref 0), some (.int a1), none, none, none]) (st' := [.int (-1 : Int32)]) (s' := s267) rfl ?_
    exact wpc_ret rfl rfl (fun q => absurd q (by decide)) rfl ⟨(-1 : Int32), rfl, h271⟩
  · have h272 := h269.2 hc270
    refine wpc_sl (n := 12) (c' := 11) (pc' := 23) (ls' := [some (.ref 0), some (.int a1), some (.int (a1 >>> ((1 : Int32) &&& 31))), some (.int (a1 ^^^ (1 : Int32))), some (.int (0 : Int32))]) (st' := [.int (a1 ^^^ (1 : Int32)), .ref 0]) (s' := s267) rfl ?_
    refine wpc_callI (m' := 3) (me' := cm3) (as := [.int (a1 ^^^ (1 : Int32))]) (r := []) rfl rfl rfl rfl rfl ⟨by decide, (by first | decide | exact Nat.le_of_ble_eq_true rfl), (by first | decide | exact Nat.le_of_ble_eq_true rfl), rfl⟩ (calI.mono h272 fun v274 s273 h275 => ?_)
    refine wpc_if (a := 36) (b := 29) rfl (by decide) rfl rfl (wpc_br (p := v274 = (0 : Int32)) ⟨fun hc276 => ?_, fun hc276 => ?_⟩)
    · have h277 := h275.1 hc276
      exact h277
    · have h278 := h275.2 hc276
      refine wpc_sl (n := 2) (c' := 11) (pc' := 31) (ls' := [some (.ref 0), some (.int a1), some (.int (a1 >>> ((1 : Int32) &&& 31))), some (.int (a1 ^^^ (1 : Int32))), some (.int (0 : Int32))]) (st' := [.int (a1 ^^^ (1 : Int32)), .ref 0]) (s' := s273) rfl ?_
      refine wpc_callI (m' := 4) (me' := cm4) (as := [.int (a1 ^^^ (1 : Int32))]) (r := []) rfl rfl rfl rfl rfl ⟨by decide, (by first | decide | exact Nat.le_of_ble_eq_true rfl), (by first | decide | exact Nat.le_of_ble_eq_true rfl), rfl⟩ (calI.mono h278 fun v280 s279 h281 => ?_)
      refine wpc_sl (n := 1) (c' := 11) (pc' := 36) (ls' := [some (.ref 0), some (.int a1), some (.int (a1 >>> ((1 : Int32) &&& 31))), some (.int (a1 ^^^ (1 : Int32))), some (.int v280)]) (st' := []) (s' := s279) rfl ?_
      exact h281
theorem c18_36 (x1 : Int32) (x2 : Int32) (x3 : Int32) (x4 : Int32) (s : St) (Q : Int32 → St → Prop) (h : (((x1 &&& (1 : Int32)) = (0 : Int32)) → inb 8 x2 ∧ wpcI PP 18 cm18 11 59 [some (.ref 0), some (.int x1), none, some (.int x3), some (.int x4)] [] (sI s 1 (ix x2) (0 : Int32)) Q) ∧ (¬ ((x1 &&& (1 : Int32)) = (0 : Int32)) → inb 8 x2 ∧ wpcI PP 18 cm18 11 59 [some (.ref 0), some (.int x1), none, some (.int x3), some (.int x4)] [] (sI s 2 (ix x2) (0 : Int32)) Q)) : wpcI PP 18 cm18 11 36 [some (.ref 0), some (.int x1), some (.int x2), some (.int x3), some (.int x4)] [] s Q := by
  refine wpc_sl (n := 3) (c' := 11) (pc' := 39) (ls' := [some (.ref 0), some (.int x1), some (.int x2), some (.int x3), some (.int x4)]) (st' := [.int (x1 &&& (1 : Int32))]) (s' := s) rfl ?_
  refine wpc_if (a := 52) (b := 42) rfl (by decide) rfl rfl (wpc_br (p := (x1 &&& (1 : Int32)) = (0 : Int32)) ⟨fun hc282 => ?_, fun hc282 => ?_⟩)
  · have h283 := h.1 hc282
    refine wpc_sl (n := 4) (c' := 11) (pc' := 48) (ls' := [some (.ref 0), some (.int x1), some (.int x2), some (.int x3), some (.int x4)]) (st' := [.int (0 : Int32), .int x2, .ref 1]) (s' := s) rfl ?_
    refine wpc_staZ (a := 0) (N := 8) (s' := (sI s 1 (ix x2) (0 : Int32))) rfl rfl (by decide) h283.1 rfl ?_
    have h285 := h283.2
    refine wpc_sl (n := 1) (c' := 11) (pc' := 59) (ls' := [some (.ref 0), some (.int x1), some (.int x2), some (.int x3), some (.int x4)]) (st' := []) (s' := (sI s 1 (ix x2) (0 : Int32))) rfl ?_
    exact wpc_lle (ls := [some (.ref 0), some (.int x1), none, some (.int x3), some (.int x4)]) ⟨rfl, rfl, rfl, rfl, trivial⟩ h285
  · have h284 := h.2 hc282
    refine wpc_sl (n := 4) (c' := 11) (pc' := 58) (ls' := [some (.ref 0), some (.int x1), some (.int x2), some (.int x3), some (.int x4)]) (st' := [.int (0 : Int32), .int x2, .ref 2]) (s' := s) rfl ?_
    refine wpc_staZ (a := 1) (N := 8) (s' := (sI s 2 (ix x2) (0 : Int32))) rfl rfl (by decide) h284.1 rfl ?_
    have h286 := h284.2
    exact wpc_lle (ls := [some (.ref 0), some (.int x1), none, some (.int x3), some (.int x4)]) ⟨rfl, rfl, rfl, rfl, trivial⟩ h286
theorem c18_59 (x1 : Int32) (x3 : Int32) (x4 : Int32) (s : St) (Q : Int32 → St → Prop) (h : calV PP 12 11 [.ref 0, .int x1] s (fun s287 => calV PP 13 11 [.ref 0, .int x3, .int x4] s287 (fun s290 => Q (0 : Int32) s290))) : wpcI PP 18 cm18 11 59 [some (.ref 0), some (.int x1), none, some (.int x3), some (.int x4)] [] s Q := by
  refine wpc_sl (n := 2) (c' := 11) (pc' := 61) (ls' := [some (.ref 0), some (.int x1), none, some (.int x3), some (.int x4)]) (st' := [.int x1, .ref 0]) (s' := s) rfl ?_
  refine wpc_callV (m' := 12) (me' := cm12) (as := [.int x1]) (r := []) rfl rfl rfl rfl rfl ⟨by decide, (by first | decide | exact Nat.le_of_ble_eq_true rfl), (by first | decide | exact Nat.le_of_ble_eq_true rfl), rfl⟩ (calV.mono h fun s287 h289 => ?_)
  refine wpc_sl (n := 3) (c' := 11) (pc' := 68) (ls' := [some (.ref 0), some (.int x1), none, some (.int x3), some (.int x4)]) (st' := [.int x4, .int x3, .ref 0]) (s' := s287) rfl ?_
  refine wpc_callV (m' := 13) (me' := cm13) (as := [.int x3, .int x4]) (r := []) rfl rfl rfl rfl rfl ⟨by decide, (by first | decide | exact Nat.le_of_ble_eq_true rfl), (by first | decide | exact Nat.le_of_ble_eq_true rfl), rfl⟩ (calV.mono h289 fun s290 h292 => ?_)
  refine wpc_sl (n := 1) (c' := 11) (pc' := 72) (ls' := [some (.ref 0), some (.int x1), none, some (.int x3), some (.int x4)]) (st' := [.int (0 : Int32)]) (s' := s290) rfl ?_
  exact wpc_ret rfl rfl (fun q => absurd q (by decide)) rfl ⟨(0 : Int32), rfl, h292⟩
theorem c6_in (a1 : Int32) (s : St) (Q : Int32 → St → Prop) (h : ((a1 < (0 : Int32)) → Q (0 : Int32) s) ∧ (¬ (a1 < (0 : Int32)) → ((a1 < (gI s 0 19)) → Q (1 : Int32) s) ∧ (¬ (a1 < (gI s 0 19)) → Q (0 : Int32) s))) : calI PP 6 11 [.ref 0, .int a1] s Q := by
  refine cal_of (me := cm6) (ls := [some (.ref 0), some (.int a1)]) rfl (Nat.le_of_ble_eq_true rfl) rfl ?_
  refine wpc_sl (n := 1) (c' := 11) (pc' := 1) (ls' := [some (.ref 0), some (.int a1)]) (st' := [.int a1]) (s' := s) rfl ?_
  refine wpc_if (a := 16) (b := 4) rfl (by decide) rfl rfl (wpc_br (p := a1 < (0 : Int32)) ⟨fun hc335 => ?_, fun hc335 => ?_⟩)
  · have h336 := h.1 hc335
    refine wpc_sl (n := 1) (c' := 11) (pc' := 17) (ls' := [some (.ref 0), some (.int a1)]) (st' := [.int (0 : Int32)]) (s' := s) rfl ?_
    exact wpc_ret rfl rfl (fun q => absurd q (by decide)) rfl ⟨(0 : Int32), rfl, h336⟩
  · have h337 := h.2 hc335
    refine wpc_sl (n := 3) (c' := 11) (pc' := 9) (ls' := [some (.ref 0), some (.int a1)]) (st' := [.int (gI s 0 19), .int a1]) (s' := s) rfl ?_
    refine wpc_icmp (a := 16) (b := 12) rfl (by decide) rfl rfl (wpc_br (p := a1 < (gI s 0 19)) ⟨fun hc338 => ?_, fun hc338 => ?_⟩)
    · have h339 := h337.1 hc338
      refine wpc_sl (n := 2) (c' := 11) (pc' := 17) (ls' := [some (.ref 0), some (.int a1)]) (st' := [.int (1 : Int32)]) (s' := s) rfl ?_
      exact wpc_ret rfl rfl (fun q => absurd q (by decide)) rfl ⟨(1 : Int32), rfl, h339⟩
    · have h340 := h337.2 hc338
      refine wpc_sl (n := 1) (c' := 11) (pc' := 17) (ls' := [some (.ref 0), some (.int a1)]) (st' := [.int (0 : Int32)]) (s' := s) rfl ?_
      exact wpc_ret rfl rfl (fun q => absurd q (by decide)) rfl ⟨(0 : Int32), rfl, h340⟩
theorem c7_in (a1 : Int32) (s : St) (Q : Int32 → St → Prop) (h : (((a1 &&& (-52 : Int32)) = (0 : Int32)) → Q (1 : Int32) s) ∧ (¬ ((a1 &&& (-52 : Int32)) = (0 : Int32)) → Q (0 : Int32) s)) : calI PP 7 11 [.ref 0, .int a1] s Q := by
  refine cal_of (me := cm7) (ls := [some (.ref 0), some (.int a1)]) rfl (Nat.le_of_ble_eq_true rfl) rfl ?_
  refine wpc_sl (n := 3) (c' := 11) (pc' := 4) (ls' := [some (.ref 0), some (.int a1)]) (st' := [.int (a1 &&& (-52 : Int32))]) (s' := s) rfl ?_
  refine wpc_if (a := 11) (b := 7) rfl (by decide) rfl rfl (wpc_br (p := (a1 &&& (-52 : Int32)) = (0 : Int32)) ⟨fun hc341 => ?_, fun hc341 => ?_⟩)
  · have h342 := h.1 hc341
    refine wpc_sl (n := 2) (c' := 11) (pc' := 12) (ls' := [some (.ref 0), some (.int a1)]) (st' := [.int (1 : Int32)]) (s' := s) rfl ?_
    exact wpc_ret rfl rfl (fun q => absurd q (by decide)) rfl ⟨(1 : Int32), rfl, h342⟩
  · have h343 := h.2 hc341
    refine wpc_sl (n := 1) (c' := 11) (pc' := 12) (ls' := [some (.ref 0), some (.int a1)]) (st' := [.int (0 : Int32)]) (s' := s) rfl ?_
    exact wpc_ret rfl rfl (fun q => absurd q (by decide)) rfl ⟨(0 : Int32), rfl, h343⟩
theorem c10_in (a1 : Int32) (a2 : Int32) (a3 : Int32) (s : St) (Q : St → Prop) (h : inb 64 a1 ∧ inb 64 a1 ∧ (((a3 &&& (16 : Int32)) = (0 : Int32)) → inb 64 a1 ∧ Q (sI (sI (sI s 7 (ix a1) a3) 8 (ix a1) (1 : Int32)) 9 (ix a1) (0 : Int32))) ∧ (¬ ((a3 &&& (16 : Int32)) = (0 : Int32)) → calI PP 4 11 [.ref 0, .int a2] (sI (sI s 7 (ix a1) a3) 8 (ix a1) (1 : Int32)) (fun v351 s350 => calI PP 5 11 [.ref 0, .int a3] s350 (fun v354 s353 => inb 64 a1 ∧ Q (sI s353 9 (ix a1) (v351 &&& v354)))))) : calV PP 10 11 [.ref 0, .int a1, .int a2, .int a3] s Q := by
  refine cal_of (me := cm10) (ls := [some (.ref 0), some (.int a1), some (.int a2), some (.int a3)]) rfl (Nat.le_of_ble_eq_true rfl) rfl ?_
  refine wpc_sl (n := 4) (c' := 11) (pc' := 6) (ls' := [some (.ref 0), some (.int a1), some (.int a2), some (.int a3)]) (st' := [.int a3, .int a1, .ref 7]) (s' := s) rfl ?_
  refine wpc_staI (a := 6) (N := 64) (s' := (sI s 7 (ix a1) a3)) rfl rfl (by decide) h.1 rfl ?_
  have h344 := h.2
  refine wpc_sl (n := 4) (c' := 11) (pc' := 13) (ls' := [some (.ref 0), some (.int a1), some (.int a2), some (.int a3)]) (st' := [.int (1 : Int32), .int a1, .ref 8]) (s' := (sI s 7 (ix a1) a3)) rfl ?_
  refine wpc_staZ (a := 7) (N := 64) (s' := (sI (sI s 7 (ix a1) a3) 8 (ix a1) (1 : Int32))) rfl rfl (by decide) h344.1 rfl ?_
  have h345 := h344.2
  refine wpc_sl (n := 3) (c' := 11) (pc' := 18) (ls' := [some (.ref 0), some (.int a1), some (.int a2), some (.int a3)]) (st' := [.int (a3 &&& (16 : Int32))]) (s' := (sI (sI s 7 (ix a1) a3) 8 (ix a1) (1 : Int32))) rfl ?_
  refine wpc_if (a := 41) (b := 21) rfl (by decide) rfl rfl (wpc_br (p := (a3 &&& (16 : Int32)) = (0 : Int32)) ⟨fun hc346 => ?_, fun hc346 => ?_⟩)
  · have h347 := h345.1 hc346
    refine wpc_sl (n := 4) (c' := 11) (pc' := 47) (ls' := [some (.ref 0), some (.int a1), some (.int a2), some (.int a3)]) (st' := [.int (0 : Int32), .int a1, .ref 9]) (s' := (sI (sI s 7 (ix a1) a3) 8 (ix a1) (1 : Int32))) rfl ?_
    refine wpc_staI (a := 8) (N := 64) (s' := (sI (sI (sI s 7 (ix a1) a3) 8 (ix a1) (1 : Int32)) 9 (ix a1) (0 : Int32))) rfl rfl (by decide) h347.1 rfl ?_
    have h349 := h347.2
    exact wpc_ret rfl rfl (fun q => absurd q (by decide)) rfl ⟨rfl, h349⟩
  · have h348 := h345.2 hc346
    refine wpc_sl (n := 5) (c' := 11) (pc' := 28) (ls' := [some (.ref 0), some (.int a1), some (.int a2), some (.int a3)]) (st' := [.int a2, .ref 0, .int a1, .ref 9]) (s' := (sI (sI s 7 (ix a1) a3) 8 (ix a1) (1 : Int32))) rfl ?_
    refine wpc_callI (m' := 4) (me' := cm4) (as := [.int a2]) (r := [.int a1, .ref 9]) rfl rfl rfl rfl rfl ⟨by decide, (by first | decide | exact Nat.le_of_ble_eq_true rfl), (by first | decide | exact Nat.le_of_ble_eq_true rfl), rfl⟩ (calI.mono h348 fun v351 s350 h352 => ?_)
    refine wpc_sl (n := 2) (c' := 11) (pc' := 33) (ls' := [some (.ref 0), some (.int a1), some (.int a2), some (.int a3)]) (st' := [.int a3, .ref 0, .int v351, .int a1, .ref 9]) (s' := s350) rfl ?_
    refine wpc_callI (m' := 5) (me' := cm5) (as := [.int a3]) (r := [.int v351, .int a1, .ref 9]) rfl rfl rfl rfl rfl ⟨by decide, (by first | decide | exact Nat.le_of_ble_eq_true rfl), (by first | decide | exact Nat.le_of_ble_eq_true rfl), rfl⟩ (calI.mono h352 fun v354 s353 h355 => ?_)
    refine wpc_sl (n := 1) (c' := 11) (pc' := 37) (ls' := [some (.ref 0), some (.int a1), some (.int a2), some (.int a3)]) (st' := [.int (v351 &&& v354), .int a1, .ref 9]) (s' := s353) rfl ?_
    refine wpc_staI (a := 8) (N := 64) (s' := (sI s353 9 (ix a1) (v351 &&& v354))) rfl rfl (by decide) h355.1 rfl ?_
    have h356 := h355.2
    refine wpc_sl (n := 1) (c' := 11) (pc' := 48) (ls' := [some (.ref 0), some (.int a1), some (.int a2), some (.int a3)]) (st' := []) (s' := (sI s353 9 (ix a1) (v351 &&& v354))) rfl ?_
    exact wpc_ret rfl rfl (fun q => absurd q (by decide)) rfl ⟨rfl, h356⟩
theorem c19_in (a1 : Int32) (a2 : Int32) (a3 : Int32) (s : St) (Q : Int32 → St → Prop) (h : calI PP 6 11 [.ref 0, .int a1] s (fun v307 s306 => ((v307 = (0 : Int32)) → Q (-6 : Int32) s306) ∧ (¬ (v307 = (0 : Int32)) → calI PP 7 11 [.ref 0, .int a3] s306 (fun v313 s312 => ((v313 = (0 : Int32)) → Q (-6 : Int32) s312) ∧ (¬ (v313 = (0 : Int32)) → calI PP 3 11 [.ref 0, .int a2] s312 (fun v319 s318 => ((v319 = (0 : Int32)) → Q (-1 : Int32) s318) ∧ (¬ (v319 = (0 : Int32)) → calI PP 8 11 [.ref 0, .int a1, .int a2] s318 (fun v325 s324 => inb 64 v325 ∧ (((gI s324 6 (ix v325)) = (0 : Int32)) → inb 64 v325 ∧ calV PP 10 11 [.ref 0, .int v325, .int a2, .int a3] (sI s324 6 (ix v325) (1 : Int32)) (fun s332 => Q (0 : Int32) s332)) ∧ (¬ ((gI s324 6 (ix v325)) = (0 : Int32)) → Q (-5 : Int32) s324))))))))) : calI PP 19 11 [.ref 0, .int a1, .int a2, .int a3] s Q := by
  refine cal_of (me := cm19) (ls := [some (.ref 0), some (.int a1), some (.int a2), some (.int a3), none]) rfl (Nat.le_of_ble_eq_true rfl) rfl ?_
  refine wpc_sl (n := 2) (c' := 11) (pc' := 2) (ls' := [some (.ref 0), some (.int a1), some (.int a2), some (.int a3), none]) (st' := [.int a1, .ref 0]) (s' := s) rfl ?_
  refine wpc_callI (m' := 6) (me' := cm6) (as := [.int a1]) (r := []) rfl rfl rfl rfl rfl ⟨by decide, (by first | decide | exact Nat.le_of_ble_eq_true rfl), (by first | decide | exact Nat.le_of_ble_eq_true rfl), rfl⟩ (calI.mono h fun v307 s306 h308 => ?_)
  refine wpc_if (a := 16) (b := 8) rfl (by decide) rfl rfl (wpc_br (p := v307 = (0 : Int32)) ⟨fun hc309 => ?_, fun hc309 => ?_⟩)
  · have h310 := h308.1 hc309
    refine wpc_sl (n := 1) (c' := 11) (pc' := 18) (ls' := [some (.ref 0), some (.int a1), some (.int a2), some (.int a3), none]) (st' := [.int (-6 : Int32)]) (s' := s306) rfl ?_
    exact wpc_ret rfl rfl (fun q => absurd q (by decide)) rfl ⟨(-6 : Int32), rfl, h310⟩
  · have h311 := h308.2 hc309
    refine wpc_sl (n := 2) (c' := 11) (pc' := 10) (ls' := [some (.ref 0), some (.int a1), some (.int a2), some (.int a3), none]) (st' := [.int a3, .ref 0]) (s' := s306) rfl ?_
    refine wpc_callI (m' := 7) (me' := cm7) (as := [.int a3]) (r := []) rfl rfl rfl rfl rfl ⟨by decide, (by first | decide | exact Nat.le_of_ble_eq_true rfl), (by first | decide | exact Nat.le_of_ble_eq_true rfl), rfl⟩ (calI.mono h311 fun v313 s312 h314 => ?_)
    refine wpc_if (a := 19) (b := 16) rfl (by decide) rfl rfl (wpc_br (p := v313 = (0 : Int32)) ⟨fun hc315 => ?_, fun hc315 => ?_⟩)
    · have h316 := h314.1 hc315
      refine wpc_sl (n := 1) (c' := 11) (pc' := 18) (ls' := [some (.ref 0), some (.int a1), some (.int a2), some (.int a3), none]) (st' := [.int (-6 : Int32)]) (s' := s312) rfl ?_
      exact wpc_ret rfl rfl (fun q => absurd q (by decide)) rfl ⟨(-6 : Int32), rfl, h316⟩
    · have h317 := h314.2 hc315
      refine wpc_sl (n := 2) (c' := 11) (pc' := 21) (ls' := [some (.ref 0), some (.int a1), some (.int a2), some (.int a3), none]) (st' := [.int a2, .ref 0]) (s' := s312) rfl ?_
      refine wpc_callI (m' := 3) (me' := cm3) (as := [.int a2]) (r := []) rfl rfl rfl rfl rfl ⟨by decide, (by first | decide | exact Nat.le_of_ble_eq_true rfl), (by first | decide | exact Nat.le_of_ble_eq_true rfl), rfl⟩ (calI.mono h317 fun v319 s318 h320 => ?_)
      refine wpc_if (a := 29) (b := 27) rfl (by decide) rfl rfl (wpc_br (p := v319 = (0 : Int32)) ⟨fun hc321 => ?_, fun hc321 => ?_⟩)
      · have h322 := h320.1 hc321
        refine wpc_sl (n := 1) (c' := 11) (pc' := 28) (ls' := [some (.ref 0), some (.int a1), some (.int a2), some (.int a3), none]) (st' := [.int (-1 : Int32)]) (s' := s318) rfl ?_
        exact wpc_ret rfl rfl (fun q => absurd q (by decide)) rfl ⟨(-1 : Int32), rfl, h322⟩
      · have h323 := h320.2 hc321
        refine wpc_sl (n := 3) (c' := 11) (pc' := 32) (ls' := [some (.ref 0), some (.int a1), some (.int a2), some (.int a3), none]) (st' := [.int a2, .int a1, .ref 0]) (s' := s318) rfl ?_
        refine wpc_callI (m' := 8) (me' := cm8) (as := [.int a1, .int a2]) (r := []) rfl rfl rfl rfl rfl ⟨by decide, (by first | decide | exact Nat.le_of_ble_eq_true rfl), (by first | decide | exact Nat.le_of_ble_eq_true rfl), rfl⟩ (calI.mono h323 fun v325 s324 h326 => ?_)
        refine wpc_sl (n := 4) (c' := 11) (pc' := 43) (ls' := [some (.ref 0), some (.int a1), some (.int a2), some (.int a3), some (.int v325)]) (st' := [.int v325, .ref 6]) (s' := s324) rfl ?_
        refine wpc_ldaZ (a := 5) (N := 64) (v := (gI s324 6 (ix v325))) rfl rfl (by decide) h326.1 rfl ?_
        have h327 := h326.2
        refine wpc_if (a := 50) (b := 47) rfl (by decide) rfl rfl (wpc_br (p := (gI s324 6 (ix v325)) = (0 : Int32)) ⟨fun hc328 => ?_, fun hc328 => ?_⟩)
        · have h329 := h327.1 hc328
          refine wpc_sl (n := 4) (c' := 11) (pc' := 57) (ls' := [some (.ref 0), some (.int a1), some (.int a2), some (.int a3), some (.int v325)]) (st' := [.int (1 : Int32), .int v325, .ref 6]) (s' := s324) rfl ?_
          refine wpc_staZ (a := 5) (N := 64) (s' := (sI s324 6 (ix v325) (1 : Int32))) rfl rfl (by decide) h329.1 rfl ?_
          have h331 := h329.2
          refine wpc_sl (n := 4) (c' := 11) (pc' := 63) (ls' := [some (.ref 0), some (.int a1), some (.int a2), some (.int a3), some (.int v325)]) (st' := [.int a3, .int a2, .int v325, .ref 0]) (s' := (sI s324 6 (ix v325) (1 : Int32))) rfl ?_
          refine wpc_callV (m' := 10) (me' := cm10) (as := [.int v325, .int a2, .int a3]) (r := []) rfl rfl rfl rfl rfl ⟨by decide, (by first | decide | exact Nat.le_of_ble_eq_true rfl), (by first | decide | exact Nat.le_of_ble_eq_true rfl), rfl⟩ (calV.mono h331 fun s332 h334 => ?_)
          refine wpc_sl (n := 1) (c' := 11) (pc' := 67) (ls' := [some (.ref 0), some (.int a1), some (.int a2), some (.int a3), some (.int v325)]) (st' := [.int (0 : Int32)]) (s' := s332) rfl ?_
          exact wpc_ret rfl rfl (fun q => absurd q (by decide)) rfl ⟨(0 : Int32), rfl, h334⟩
        · have h330 := h327.2 hc328
          refine wpc_sl (n := 1) (c' := 11) (pc' := 49) (ls' := [some (.ref 0), some (.int a1), some (.int a2), some (.int a3), some (.int v325)]) (st' := [.int (-5 : Int32)]) (s' := s324) rfl ?_
          exact wpc_ret rfl rfl (fun q => absurd q (by decide)) rfl ⟨(-5 : Int32), rfl, h330⟩
theorem c20_in (a1 : Int32) (a2 : Int32) (a3 : Int32) (s : St) (Q : Int32 → St → Prop) (h : calI PP 6 11 [.ref 0, .int a1] s (fun v358 s357 => ((v358 = (0 : Int32)) → Q (-6 : Int32) s357) ∧ (¬ (v358 = (0 : Int32)) → calI PP 7 11 [.ref 0, .int a3] s357 (fun v364 s363 => ((v364 = (0 : Int32)) → Q (-6 : Int32) s363) ∧ (¬ (v364 = (0 : Int32)) → calI PP 3 11 [.ref 0, .int a2] s363 (fun v370 s369 => ((v370 = (0 : Int32)) → Q (-1 : Int32) s369) ∧ (¬ (v370 = (0 : Int32)) → calI PP 8 11 [.ref 0, .int a1, .int a2] s369 (fun v376 s375 => inb 64 v376 ∧ (((gI s375 6 (ix v376)) = (0 : Int32)) → Q (-7 : Int32) s375) ∧ (¬ ((gI s375 6 (ix v376)) = (0 : Int32)) → calV PP 10 11 [.ref 0, .int v376, .int a2, .int a3] s375 (fun s382 => Q (0 : Int32) s382)))))))))) : calI PP 20 11 [.ref 0, .int a1, .int a2, .int a3] s Q := by
  refine cal_of (me := cm20) (ls := [some (.ref 0), some (.int a1), some (.int a2), some (.int a3), none]) rfl (Nat.le_of_ble_eq_true rfl) rfl ?_
  refine wpc_sl (n := 2) (c' := 11) (pc' := 2) (ls' := [some (.ref 0), some (.int a1), some (.int a2), some (.int a3), none]) (st' := [.int a1, .ref 0]) (s' := s) rfl ?_
  refine wpc_callI (m' := 6) (me' := cm6) (as := [.int a1]) (r := []) rfl rfl rfl rfl rfl ⟨by decide, (by first | decide | exact Nat.le_of_ble_eq_true rfl), (by first | decide | exact Nat.le_of_ble_eq_true rfl), rfl⟩ (calI.mono h fun v358 s357 h359 => ?_)
  refine wpc_if (a := 16) (b := 8) rfl (by decide) rfl rfl (wpc_br (p := v358 = (0 : Int32)) ⟨fun hc360 => ?_, fun hc360 => ?_⟩)
  · have h361 := h359.1 hc360
    refine wpc_sl (n := 1) (c' := 11) (pc' := 18) (ls' := [some (.ref 0), some (.int a1), some (.int a2), some (.int a3), none]) (st' := [.int (-6 : Int32)]) (s' := s357) rfl ?_
    exact wpc_ret rfl rfl (fun q => absurd q (by decide)) rfl ⟨(-6 : Int32), rfl, h361⟩
  · have h362 := h359.2 hc360
    refine wpc_sl (n := 2) (c' := 11) (pc' := 10) (ls' := [some (.ref 0), some (.int a1), some (.int a2), some (.int a3), none]) (st' := [.int a3, .ref 0]) (s' := s357) rfl ?_
    refine wpc_callI (m' := 7) (me' := cm7) (as := [.int a3]) (r := []) rfl rfl rfl rfl rfl ⟨by decide, (by first | decide | exact Nat.le_of_ble_eq_true rfl), (by first | decide | exact Nat.le_of_ble_eq_true rfl), rfl⟩ (calI.mono h362 fun v364 s363 h365 => ?_)
    refine wpc_if (a := 19) (b := 16) rfl (by decide) rfl rfl (wpc_br (p := v364 = (0 : Int32)) ⟨fun hc366 => ?_, fun hc366 => ?_⟩)
    · have h367 := h365.1 hc366
      refine wpc_sl (n := 1) (c' := 11) (pc' := 18) (ls' := [some (.ref 0), some (.int a1), some (.int a2), some (.int a3), none]) (st' := [.int (-6 : Int32)]) (s' := s363) rfl ?_
      exact wpc_ret rfl rfl (fun q => absurd q (by decide)) rfl ⟨(-6 : Int32), rfl, h367⟩
    · have h368 := h365.2 hc366
      refine wpc_sl (n := 2) (c' := 11) (pc' := 21) (ls' := [some (.ref 0), some (.int a1), some (.int a2), some (.int a3), none]) (st' := [.int a2, .ref 0]) (s' := s363) rfl ?_
      refine wpc_callI (m' := 3) (me' := cm3) (as := [.int a2]) (r := []) rfl rfl rfl rfl rfl ⟨by decide, (by first | decide | exact Nat.le_of_ble_eq_true rfl), (by first | decide | exact Nat.le_of_ble_eq_true rfl), rfl⟩ (calI.mono h368 fun v370 s369 h371 => ?_)
      refine wpc_if (a := 29) (b := 27) rfl (by decide) rfl rfl (wpc_br (p := v370 = (0 : Int32)) ⟨fun hc372 => ?_, fun hc372 => ?_⟩)
      · have h373 := h371.1 hc372
        refine wpc_sl (n := 1) (c' := 11) (pc' := 28) (ls' := [some (.ref 0), some (.int a1), some (.int a2), some (.int a3), none]) (st' := [.int (-1 : Int32)]) (s' := s369) rfl ?_
        exact wpc_ret rfl rfl (fun q => absurd q (by decide)) rfl ⟨(-1 : Int32), rfl, h373⟩
      · have h374 := h371.2 hc372
        refine wpc_sl (n := 3) (c' := 11) (pc' := 32) (ls' := [some (.ref 0), some (.int a1), some (.int a2), some (.int a3), none]) (st' := [.int a2, .int a1, .ref 0]) (s' := s369) rfl ?_
        refine wpc_callI (m' := 8) (me' := cm8) (as := [.int a1, .int a2]) (r := []) rfl rfl rfl rfl rfl ⟨by decide, (by first | decide | exact Nat.le_of_ble_eq_true rfl), (by first | decide | exact Nat.le_of_ble_eq_true rfl), rfl⟩ (calI.mono h374 fun v376 s375 h377 => ?_)
        refine wpc_sl (n := 4) (c' := 11) (pc' := 43) (ls' := [some (.ref 0), some (.int a1), some (.int a2), some (.int a3), some (.int v376)]) (st' := [.int v376, .ref 6]) (s' := s375) rfl ?_
        refine wpc_ldaZ (a := 5) (N := 64) (v := (gI s375 6 (ix v376))) rfl rfl (by decide) h377.1 rfl ?_
        have h378 := h377.2
        refine wpc_if (a := 50) (b := 47) rfl (by decide) rfl rfl (wpc_br (p := (gI s375 6 (ix v376)) = (0 : Int32)) ⟨fun hc379 => ?_, fun hc379 => ?_⟩)
        · have h380 := h378.1 hc379
          refine wpc_sl (n := 1) (c' := 11) (pc' := 49) (ls' := [some (.ref 0), some (.int a1), some (.int a2), some (.int a3), some (.int v376)]) (st' := [.int (-7 : Int32)]) (s' := s375) rfl ?_
          exact wpc_ret rfl rfl (fun q => absurd q (by decide)) rfl ⟨(-7 : Int32), rfl, h380⟩
        · have h381 := h378.2 hc379
          refine wpc_sl (n := 4) (c' := 11) (pc' := 55) (ls' := [some (.ref 0), some (.int a1), some (.int a2), some (.int a3), some (.int v376)]) (st' := [.int a3, .int a2, .int v376, .ref 0]) (s' := s375) rfl ?_
          refine wpc_callV (m' := 10) (me' := cm10) (as := [.int v376, .int a2, .int a3]) (r := []) rfl rfl rfl rfl rfl ⟨by decide, (by first | decide | exact Nat.le_of_ble_eq_true rfl), (by first | decide | exact Nat.le_of_ble_eq_true rfl), rfl⟩ (calV.mono h381 fun s382 h384 => ?_)
          refine wpc_sl (n := 1) (c' := 11) (pc' := 59) (ls' := [some (.ref 0), some (.int a1), some (.int a2), some (.int a3), some (.int v376)]) (st' := [.int (0 : Int32)]) (s' := s382) rfl ?_
          exact wpc_ret rfl rfl (fun q => absurd q (by decide)) rfl ⟨(0 : Int32), rfl, h384⟩
theorem c21_in (a1 : Int32) (a2 : Int32) (s : St) (Q : Int32 → St → Prop) (h : calI PP 6 11 [.ref 0, .int a1] s (fun v386 s385 => ((v386 = (0 : Int32)) → Q (-6 : Int32) s385) ∧ (¬ (v386 = (0 : Int32)) → calI PP 3 11 [.ref 0, .int a2] s385 (fun v392 s391 => ((v392 = (0 : Int32)) → Q (-1 : Int32) s391) ∧ (¬ (v392 = (0 : Int32)) → calI PP 8 11 [.ref 0, .int a1, .int a2] s391 (fun v398 s397 => inb 64 v398 ∧ (((gI s397 6 (ix v398)) = (0 : Int32)) → Q (-7 : Int32) s397) ∧ (¬ ((gI s397 6 (ix v398)) = (0 : Int32)) → calV PP 11 11 [.ref 0, .int v398] s397 (fun s404 => Q (0 : Int32) s404)))))))) : calI PP 21 11 [.ref 0, .int a1, .int a2] s Q := by
  refine cal_of (me := cm21) (ls := [some (.ref 0), some (.int a1), some (.int a2), none]) rfl (Nat.le_of_ble_eq_true rfl) rfl ?_
  refine wpc_sl (n := 2) (c' := 11) (pc' := 2) (ls' := [some (.ref 0), some (.int a1), some (.int a2), none]) (st' := [.int a1, .ref 0]) (s' := s) rfl ?_
  refine wpc_callI (m' := 6) (me' := cm6) (as := [.int a1]) (r := []) rfl rfl rfl rfl rfl ⟨by decide, (by first | decide | exact Nat.le_of_ble_eq_true rfl), (by first | decide | exact Nat.le_of_ble_eq_true rfl), rfl⟩ (calI.mono h fun v386 s385 h387 => ?_)
  refine wpc_if (a := 11) (b := 8) rfl (by decide) rfl rfl (wpc_br (p := v386 = (0 : Int32)) ⟨fun hc388 => ?_, fun hc388 => ?_⟩)
  · have h389 := h387.1 hc388
    refine wpc_sl (n := 1) (c' := 11) (pc' := 10) (ls' := [some (.ref 0), some (.int a1), some (.int a2), none]) (st' := [.int (-6 : Int32)]) (s' := s385) rfl ?_
    exact wpc_ret rfl rfl (fun q => absurd q (by decide)) rfl ⟨(-6 : Int32), rfl, h389⟩
  · have h390 := h387.2 hc388
    refine wpc_sl (n := 2) (c' := 11) (pc' := 13) (ls' := [some (.ref 0), some (.int a1), some (.int a2), none]) (st' := [.int a2, .ref 0]) (s' := s385) rfl ?_
    refine wpc_callI (m' := 3) (me' := cm3) (as := [.int a2]) (r := []) rfl rfl rfl rfl rfl ⟨by decide, (by first | decide | exact Nat.le_of_ble_eq_true rfl), (by first | decide | exact Nat.le_of_ble_eq_true rfl), rfl⟩ (calI.mono h390 fun v392 s391 h393 => ?_)
    refine wpc_if (a := 21) (b := 19) rfl (by decide) rfl rfl (wpc_br (p := v392 = (0 : Int32)) ⟨fun hc394 => ?_, fun hc394 => ?_⟩)
    · have h395 := h393.1 hc394
      refine wpc_sl (n := 1) (c' := 11) (pc' := 20) (ls' := [some (.ref 0), some (.int a1), some (.int a2), none]) (st' := [.int (-1 : Int32)]) (s' := s391) rfl ?_
      exact wpc_ret rfl rfl (fun q => absurd q (by decide)) rfl ⟨(-1 : Int32), rfl, h395⟩
    · have h396 := h393.2 hc394
      refine wpc_sl (n := 3) (c' := 11) (pc' := 24) (ls' := [some (.ref 0), some (.int a1), some (.int a2), none]) (st' := [.int a2, .int a1, .ref 0]) (s' := s391) rfl ?_
      refine wpc_callI (m' := 8) (me' := cm8) (as := [.int a1, .int a2]) (r := []) rfl rfl rfl rfl rfl ⟨by decide, (by first | decide | exact Nat.le_of_ble_eq_true rfl), (by first | decide | exact Nat.le_of_ble_eq_true rfl), rfl⟩ (calI.mono h396 fun v398 s397 h399 => ?_)
      refine wpc_sl (n := 4) (c' := 11) (pc' := 33) (ls' := [some (.ref 0), some (.int a1), some (.int a2), some (.int v398)]) (st' := [.int v398, .ref 6]) (s' := s397) rfl ?_
      refine wpc_ldaZ (a := 5) (N := 64) (v := (gI s397 6 (ix v398))) rfl rfl (by decide) h399.1 rfl ?_
      have h400 := h399.2
      refine wpc_if (a := 40) (b := 37) rfl (by decide) rfl rfl (wpc_br (p := (gI s397 6 (ix v398)) = (0 : Int32)) ⟨fun hc401 => ?_, fun hc401 => ?_⟩)
      · have h402 := h400.1 hc401
        refine wpc_sl (n := 1) (c' := 11) (pc' := 39) (ls' := [some (.ref 0), some (.int a1), some (.int a2), some (.int v398)]) (st' := [.int (-7 : Int32)]) (s' := s397) rfl ?_
        exact wpc_ret rfl rfl (fun q => absurd q (by decide)) rfl ⟨(-7 : Int32), rfl, h402⟩
      · have h403 := h400.2 hc401
        refine wpc_sl (n := 2) (c' := 11) (pc' := 42) (ls' := [some (.ref 0), some (.int a1), some (.int a2), some (.int v398)]) (st' := [.int v398, .ref 0]) (s' := s397) rfl ?_
        refine wpc_callV (m' := 11) (me' := cm11) (as := [.int v398]) (r := []) rfl rfl rfl rfl rfl ⟨by decide, (by first | decide | exact Nat.le_of_ble_eq_true rfl), (by first | decide | exact Nat.le_of_ble_eq_true rfl), rfl⟩ (calV.mono h403 fun s404 h406 => ?_)
        refine wpc_sl (n := 1) (c' := 11) (pc' := 46) (ls' := [some (.ref 0), some (.int a1), some (.int a2), some (.int v398)]) (st' := [.int (0 : Int32)]) (s' := s404) rfl ?_
        exact wpc_ret rfl rfl (fun q => absurd q (by decide)) rfl ⟨(0 : Int32), rfl, h406⟩
theorem c9_in (a1 : Int32) (a2 : Int32) (s : St) (Q : Int32 → St → Prop) (h : inb 64 a1 ∧ (((gI s 8 (ix a1)) = (0 : Int32)) → Q (0 : Int32) s) ∧ (¬ ((gI s 8 (ix a1)) = (0 : Int32)) → inb 64 a1 ∧ ((((gI s 7 (ix a1)) &&& (16 : Int32)) = (0 : Int32)) → calI PP 4 11 [.ref 0, .int a2] s (fun v453 s452 => inb 64 a1 ∧ calI PP 5 11 [.ref 0, .int (gI s452 7 (ix a1))] s452 (fun v457 s456 => Q (v453 &&& v457) s456))) ∧ (¬ (((gI s 7 (ix a1)) &&& (16 : Int32)) = (0 : Int32)) → inb 64 a1 ∧ Q (gI s 9 (ix a1)) s))) : calI PP 9 11 [.ref 0, .int a1, .int a2] s Q := by
  refine cal_of (me := cm9) (ls := [some (.ref 0), some (.int a1), some (.int a2)]) rfl (Nat.le_of_ble_eq_true rfl) rfl ?_
  refine wpc_sl (n := 3) (c' := 11) (pc' := 5) (ls' := [some (.ref 0), some (.int a1), some (.int a2)]) (st' := [.int a1, .ref 8]) (s' := s) rfl ?_
  refine wpc_ldaZ (a := 7) (N := 64) (v := (gI s 8 (ix a1))) rfl rfl (by decide) h.1 rfl ?_
  have h444 := h.2
  refine wpc_if (a := 11) (b := 9) rfl (by decide) rfl rfl (wpc_br (p := (gI s 8 (ix a1)) = (0 : Int32)) ⟨fun hc445 => ?_, fun hc445 => ?_⟩)
  · have h446 := h444.1 hc445
    refine wpc_sl (n := 1) (c' := 11) (pc' := 10) (ls' := [some (.ref 0), some (.int a1), some (.int a2)]) (st' := [.int (0 : Int32)]) (s' := s) rfl ?_
    exact wpc_ret rfl rfl (fun q => absurd q (by decide)) rfl ⟨(0 : Int32), rfl, h446⟩
  · have h447 := h444.2 hc445
    refine wpc_sl (n := 3) (c' := 11) (pc' := 16) (ls' := [some (.ref 0), some (.int a1), some (.int a2)]) (st' := [.int a1, .ref 7]) (s' := s) rfl ?_
    refine wpc_ldaI (a := 6) (N := 64) (v := (gI s 7 (ix a1))) rfl rfl (by decide) h447.1 rfl ?_
    have h448 := h447.2
    refine wpc_sl (n := 2) (c' := 11) (pc' := 20) (ls' := [some (.ref 0), some (.int a1), some (.int a2)]) (st' := [.int ((gI s 7 (ix a1)) &&& (16 : Int32))]) (s' := s) rfl ?_
    refine wpc_if (a := 30) (b := 23) rfl (by decide) rfl rfl (wpc_br (p := ((gI s 7 (ix a1)) &&& (16 : Int32)) = (0 : Int32)) ⟨fun hc449 => ?_, fun hc449 => ?_⟩)
    · have h450 := h448.1 hc449
      refine wpc_sl (n := 2) (c' := 11) (pc' := 32) (ls' := [some (.ref 0), some (.int a1), some (.int a2)]) (st' := [.int a2, .ref 0]) (s' := s) rfl ?_
      refine wpc_callI (m' := 4) (me' := cm4) (as := [.int a2]) (r := []) rfl rfl rfl rfl rfl ⟨by decide, (by first | decide | exact Nat.le_of_ble_eq_true rfl), (by first | decide | exact Nat.le_of_ble_eq_true rfl), rfl⟩ (calI.mono h450 fun v453 s452 h454 => ?_)
      refine wpc_sl (n := 4) (c' := 11) (pc' := 41) (ls' := [some (.ref 0), some (.int a1), some (.int a2)]) (st' := [.int a1, .ref 7, .ref 0, .int v453]) (s' := s452) rfl ?_
      refine wpc_ldaI (a := 6) (N := 64) (v := (gI s452 7 (ix a1))) rfl rfl (by decide) h454.1 rfl ?_
      have h455 := h454.2
      refine wpc_callI (m' := 5) (me' := cm5) (as := [.int (gI s452 7 (ix a1))]) (r := [.int v453]) rfl rfl rfl rfl rfl ⟨by decide, (by first | decide | exact Nat.le_of_ble_eq_true rfl), (by first | decide | exact Nat.le_of_ble_eq_true rfl), rfl⟩ (calI.mono h455 fun v457 s456 h458 => ?_)
      refine wpc_sl (n := 1) (c' := 11) (pc' := 46) (ls' := [some (.ref 0), some (.int a1), some (.int a2)]) (st' := [.int (v453 &&& v457)]) (s' := s456) rfl ?_
      exact wpc_ret rfl rfl (fun q => absurd q (by decide)) rfl ⟨(v453 &&& v457), rfl, h458⟩
    · have h451 := h448.2 hc449
      refine wpc_sl (n := 3) (c' := 11) (pc' := 28) (ls' := [some (.ref 0), some (.int a1), some (.int a2)]) (st' := [.int a1, .ref 9]) (s' := s) rfl ?_
      refine wpc_ldaI (a := 8) (N := 64) (v := (gI s 9 (ix a1))) rfl rfl (by decide) h451.1 rfl ?_
      have h459 := h451.2
      exact wpc_ret rfl rfl (fun q => absurd q (by decide)) rfl ⟨(gI s 9 (ix a1)), rfl, h459⟩
theorem c23_in (a1 : Int32) (s : St) (Q : St → Prop) (h : inb 64 a1 ∧ ((((gI s 7 (ix a1)) &&& (32 : Int32)) = (0 : Int32)) → inb 64 a1 ∧ ((((gI s 7 (ix a1)) &&& (16 : Int32)) = (0 : Int32)) → Q s) ∧ (¬ (((gI s 7 (ix a1)) &&& (16 : Int32)) = (0 : Int32)) → inb 64 a1 ∧ Q (sI s 9 (ix a1) (0 : Int32)))) ∧ (¬ (((gI s 7 (ix a1)) &&& (32 : Int32)) = (0 : Int32)) → inb 64 a1 ∧ inb 64 a1 ∧ Q (sI (sI s 8 (ix a1) (0 : Int32)) 9 (ix a1) (0 : Int32)))) : calV PP 23 11 [.ref 0, .int a1] s Q := by
  refine cal_of (me := cm23) (ls := [some (.ref 0), some (.int a1)]) rfl (Nat.le_of_ble_eq_true rfl) rfl ?_
  refine wpc_sl (n := 3) (c' := 11) (pc' := 5) (ls' := [some (.ref 0), some (.int a1)]) (st' := [.int a1, .ref 7]) (s' := s) rfl ?_
  refine wpc_ldaI (a := 6) (N := 64) (v := (gI s 7 (ix a1))) rfl rfl (by decide) h.1 rfl ?_
  have h460 := h.2
  refine wpc_sl (n := 2) (c' := 11) (pc' := 9) (ls' := [some (.ref 0), some (.int a1)]) (st' := [.int ((gI s 7 (ix a1)) &&& (32 : Int32))]) (s' := s) rfl ?_
  refine wpc_if (a := 29) (b := 12) rfl (by decide) rfl rfl (wpc_br (p := ((gI s 7 (ix a1)) &&& (32 : Int32)) = (0 : Int32)) ⟨fun hc461 => ?_, fun hc461 => ?_⟩)
  · have h462 := h460.1 hc461
    refine wpc_sl (n := 3) (c' := 11) (pc' := 34) (ls' := [some (.ref 0), some (.int a1)]) (st' := [.int a1, .ref 7]) (s' := s) rfl ?_
    refine wpc_ldaI (a := 6) (N := 64) (v := (gI s 7 (ix a1))) rfl rfl (by decide) h462.1 rfl ?_
    have h464 := h462.2
    refine wpc_sl (n := 2) (c' := 11) (pc' := 38) (ls' := [some (.ref 0), some (.int a1)]) (st' := [.int ((gI s 7 (ix a1)) &&& (16 : Int32))]) (s' := s) rfl ?_
    refine wpc_if (a := 48) (b := 41) rfl (by decide) rfl rfl (wpc_br (p := ((gI s 7 (ix a1)) &&& (16 : Int32)) = (0 : Int32)) ⟨fun hc465 => ?_, fun hc465 => ?_⟩)
    · have h466 := h464.1 hc465
      exact wpc_ret rfl rfl (fun q => absurd q (by decide)) rfl ⟨rfl, h466⟩
    · have h467 := h464.2 hc465
      refine wpc_sl (n := 4) (c' := 11) (pc' := 47) (ls' := [some (.ref 0), some (.int a1)]) (st' := [.int (0 : Int32), .int a1, .ref 9]) (s' := s) rfl ?_
      refine wpc_staI (a := 8) (N := 64) (s' := (sI s 9 (ix a1) (0 : Int32))) rfl rfl (by decide) h467.1 rfl ?_
      have h468 := h467.2
      exact wpc_ret rfl rfl (fun q => absurd q (by decide)) rfl ⟨rfl, h468⟩
  · have h463 := h460.2 hc461
    refine wpc_sl (n := 4) (c' := 11) (pc' := 18) (ls' := [some (.ref 0), some (.int a1)]) (st' := [.int (0 : Int32), .int a1, .ref 8]) (s' := s) rfl ?_
    refine wpc_staZ (a := 7) (N := 64) (s' := (sI s 8 (ix a1) (0 : Int32))) rfl rfl (by decide) h463.1 rfl ?_
    have h469 := h463.2
    refine wpc_sl (n := 4) (c' := 11) (pc' := 25) (ls' := [some (.ref 0), some (.int a1)]) (st' := [.int (0 : Int32), .int a1, .ref 9]) (s' := (sI s 8 (ix a1) (0 : Int32))) rfl ?_
    refine wpc_staI (a := 8) (N := 64) (s' := (sI (sI s 8 (ix a1) (0 : Int32)) 9 (ix a1) (0 : Int32))) rfl rfl (by decide) h469.1 rfl ?_
    have h470 := h469.2
    refine wpc_sl (n := 1) (c' := 11) (pc' := 48) (ls' := [some (.ref 0), some (.int a1)]) (st' := []) (s' := (sI (sI s 8 (ix a1) (0 : Int32)) 9 (ix a1) (0 : Int32))) rfl ?_
    exact wpc_ret rfl rfl (fun q => absurd q (by decide)) rfl ⟨rfl, h470⟩
theorem c22_in (a1 : Int32) (a2 : Int32) (s : St) (Q : Int32 → St → Prop) (h : calI PP 6 11 [.ref 0, .int a1] s (fun v408 s407 => ((v408 = (0 : Int32)) → Q (-6 : Int32) s407) ∧ (¬ (v408 = (0 : Int32)) → ((a2 < (1 : Int32)) → Q (-6 : Int32) s407) ∧ (¬ (a2 < (1 : Int32)) → ∀ m416, m416 = (if (16 : Int32) < a2 then (16 : Int32) else a2) → (wpcI PP 22 cm22 11 43 [some (.ref 0), some (.int a1), none, some (.int m416), some (.int (0 : Int32)), some (.int ((2 : Int32) * (gI s407 0 17))), some (.int (0 : Int32)), none, none] [] s407 Q))))) : calI PP 22 11 [.ref 0, .int a1, .int a2] s Q := by
  refine cal_of (me := cm22) (ls := [some (.ref 0), some (.int a1), some (.int a2), none, none, none, none, none, none]) rfl (Nat.le_of_ble_eq_true rfl) rfl ?_
  refine wpc_sl (n := 2) (c' := 11) (pc' := 2) (ls' := [some (.ref 0), some (.int a1), some (.int a2), none, none, none, none, none, none]) (st' := [.int a1, .ref 0]) (s' := s) rfl ?_
  refine wpc_callI (m' := 6) (me' := cm6) (as := [.int a1]) (r := []) rfl rfl rfl rfl rfl ⟨by decide, (by first | decide | exact Nat.le_of_ble_eq_true rfl), (by first | decide | exact Nat.le_of_ble_eq_true rfl), rfl⟩ (calI.mono h fun v408 s407 h409 => ?_)
  refine wpc_if (a := 13) (b := 8) rfl (by decide) rfl rfl (wpc_br (p := v408 = (0 : Int32)) ⟨fun hc410 => ?_, fun hc410 => ?_⟩)
  · have h411 := h409.1 hc410
    refine wpc_sl (n := 1) (c' := 11) (pc' := 15) (ls' := [some (.ref 0), some (.int a1), some (.int a2), none, none, none, none, none, none]) (st' := [.int (-6 : Int32)]) (s' := s407) rfl ?_
    exact wpc_ret rfl rfl (fun q => absurd q (by decide)) rfl ⟨(-6 : Int32), rfl, h411⟩
  · have h412 := h409.2 hc410
    refine wpc_sl (n := 2) (c' := 11) (pc' := 10) (ls' := [some (.ref 0), some (.int a1), some (.int a2), none, none, none, none, none, none]) (st' := [.int (1 : Int32), .int a2]) (s' := s407) rfl ?_
    refine wpc_icmp (a := 16) (b := 13) rfl (by decide) rfl rfl (wpc_br (p := a2 < (1 : Int32)) ⟨fun hc413 => ?_, fun hc413 => ?_⟩)
    · have h414 := h412.1 hc413
      refine wpc_sl (n := 1) (c' := 11) (pc' := 15) (ls' := [some (.ref 0), some (.int a1), some (.int a2), none, none, none, none, none, none]) (st' := [.int (-6 : Int32)]) (s' := s407) rfl ?_
      exact wpc_ret rfl rfl (fun q => absurd q (by decide)) rfl ⟨(-6 : Int32), rfl, h414⟩
    · have h415 := h412.2 hc413
      refine wpc_sl (n := 2) (c' := 11) (pc' := 19) (ls' := [some (.ref 0), some (.int a1), some (.int a2), none, none, none, none, none, none]) (st' := [.int (16 : Int32), .int a2]) (s' := s407) rfl ?_
      have hm417 : ∀ m416, m416 = (if (16 : Int32) < a2 then (16 : Int32) else a2) → wpcI PP 22 cm22 11 28 [some (.ref 0), some (.int a1), some (.int a2), none, none, none, none, none, none] [.int m416] s407 Q := by
        intro m416 em416
        have h418 := h415 m416 em416
        refine wpc_sl (n := 10) (c' := 11) (pc' := 43) (ls' := [some (.ref 0), some (.int a1), some (.int a2), some (.int m416), some (.int (0 : Int32)), some (.int ((2 : Int32) * (gI s407 0 17))), some (.int (0 : Int32)), none, none]) (st' := []) (s' := s407) rfl ?_
        exact wpc_lle (ls := [some (.ref 0), some (.int a1), none, some (.int m416), some (.int (0 : Int32)), some (.int ((2 : Int32) * (gI s407 0 17))), some (.int (0 : Int32)), none, none]) ⟨rfl, rfl, rfl, rfl, rfl, rfl, trivial⟩ h418
      refine wpc_icmp (a := 27) (b := 22) rfl (by decide) rfl rfl (wpc_br (p := (16 : Int32) < a2) ⟨fun hc419 => ?_, fun hc419 => ?_⟩)
      · refine wpc_sl (n := 2) (c' := 11) (pc' := 28) (ls' := [some (.ref 0), some (.int a1), some (.int a2), none, none, none, none, none, none]) (st' := [.int (16 : Int32)]) (s' := s407) rfl ?_
        first | exact hm417 _ (by simp only [if_pos hc419]) | exact wpc_lle (by repeat (first | exact trivial | refine ⟨rfl, ?_⟩)) (hm417 _ (by simp only [if_pos hc419]))
      · refine wpc_sl (n := 1) (c' := 11) (pc' := 28) (ls' := [some (.ref 0), some (.int a1), some (.int a2), none, none, none, none, none, none]) (st' := [.int a2]) (s' := s407) rfl ?_
        first | exact hm417 _ (by simp only [if_neg hc419]) | exact wpc_lle (by repeat (first | exact trivial | refine ⟨rfl, ?_⟩)) (hm417 _ (by simp only [if_neg hc419]))
theorem c22_43 (x1 : Int32) (x3 : Int32) (x4 : Int32) (x5 : Int32) (x6 : Int32) (s : St) (Q : Int32 → St → Prop) (h : ((x6 < x5) → ((x4 < x3) → calI PP 8 11 [.ref 0, .int x1, .int x6] s (fun v427 s426 => inb 64 v427 ∧ (((gI s426 6 (ix v427)) = (0 : Int32)) → wpcI PP 22 cm22 11 123 [some (.ref 0), some (.int x1), none, some (.int x3), some (.int x4), some (.int x5), some (.int x6), none, none] [] s426 Q) ∧ (¬ ((gI s426 6 (ix v427)) = (0 : Int32)) → calI PP 9 11 [.ref 0, .int v427, .int x6] s426 (fun v434 s433 => ((v434 = (0 : Int32)) → wpcI PP 22 cm22 11 123 [some (.ref 0), some (.int x1), none, some (.int x3), some (.int x4), some (.int x5), some (.int x6), none, none] [] s433 Q) ∧ (¬ (v434 = (0 : Int32)) → inb 16 x4 ∧ inb 16 x4 ∧ calV PP 23 11 [.ref 0, .int v427] (sI (sI s433 10 (ix x4) x6) 11 (ix x4) v434) (fun s441 => wpcI PP 22 cm22 11 123 [some (.ref 0), some (.int x1), none, some (.int x3), some (.int (x4 + (1 : Int32))), some (.int x5), some (.int x6), none, none] [] s441 Q)))))) ∧ (¬ (x4 < x3) → wpcI PP 22 cm22 11 129 [some (.ref 0), none, none, none, some (.int x4), none, none, none, none] [] s Q)) ∧ (¬ (x6 < x5) → wpcI PP 22 cm22 11 129 [some (.ref 0), none, none, none, some (.int x4), none, none, none, none] [] s Q)) : wpcI PP 22 cm22 11 43 [some (.ref 0), some (.int x1), none, some (.int x3), some (.int x4), some (.int x5), some (.int x6), none, none] [] s Q := by
  refine wpc_sl (n := 2) (c' := 11) (pc' := 47) (ls' := [some (.ref 0), some (.int x1), none, some (.int x3), some (.int x4), some (.int x5), some (.int x6), none, none]) (st' := [.int x5, .int x6]) (s' := s) rfl ?_
  refine wpc_icmp (a := 129) (b := 50) rfl (by decide) rfl rfl (wpc_br (p := x6 < x5) ⟨fun hc420 => ?_, fun hc420 => ?_⟩)
  · have h421 := h.1 hc420
    refine wpc_sl (n := 2) (c' := 11) (pc' := 53) (ls' := [some (.ref 0), some (.int x1), none, some (.int x3), some (.int x4), some (.int x5), some (.int x6), none, none]) (st' := [.int x3, .int x4]) (s' := s) rfl ?_
    refine wpc_icmp (a := 129) (b := 56) rfl (by decide) rfl rfl (wpc_br (p := x4 < x3) ⟨fun hc423 => ?_, fun hc423 => ?_⟩)
    · have h424 := h421.1 hc423
      refine wpc_sl (n := 3) (c' := 11) (pc' := 60) (ls' := [some (.ref 0), some (.int x1), none, some (.int x3), some (.int x4), some (.int x5), some (.int x6), none, none]) (st' := [.int x6, .int x1, .ref 0]) (s' := s) rfl ?_
      refine wpc_callI (m' := 8) (me' := cm8) (as := [.int x1, .int x6]) (r := []) rfl rfl rfl rfl rfl ⟨by decide, (by first | decide | exact Nat.le_of_ble_eq_true rfl), (by first | decide | exact Nat.le_of_ble_eq_true rfl), rfl⟩ (calI.mono h424 fun v427 s426 h428 => ?_)
      refine wpc_sl (n := 4) (c' := 11) (pc' := 71) (ls' := [some (.ref 0), some (.int x1), none, some (.int x3), some (.int x4), some (.int x5), some (.int x6), some (.int v427), none]) (st' := [.int v427, .ref 6]) (s' := s426) rfl ?_
      refine wpc_ldaZ (a := 5) (N := 64) (v := (gI s426 6 (ix v427))) rfl rfl (by decide) h428.1 rfl ?_
      have h429 := h428.2
      refine wpc_if (a := 78) (b := 75) rfl (by decide) rfl rfl (wpc_br (p := (gI s426 6 (ix v427)) = (0 : Int32)) ⟨fun hc430 => ?_, fun hc430 => ?_⟩)
      · have h431 := h429.1 hc430
        refine wpc_sl (n := 1) (c' := 11) (pc' := 123) (ls' := [some (.ref 0), some (.int x1), none, some (.int x3), some (.int x4), some (.int x5), some (.int x6), some (.int v427), none]) (st' := []) (s' := s426) rfl ?_
        exact wpc_lle (ls := [some (.ref 0), some (.int x1), none, some (.int x3), some (.int x4), some (.int x5), some (.int x6), none, none]) ⟨rfl, rfl, rfl, rfl, rfl, rfl, trivial⟩ h431
      · have h432 := h429.2 hc430
        refine wpc_sl (n := 3) (c' := 11) (pc' := 83) (ls' := [some (.ref 0), some (.int x1), none, some (.int x3), some (.int x4), some (.int x5), some (.int x6), some (.int v427), none]) (st' := [.int x6, .int v427, .ref 0]) (s' := s426) rfl ?_
        refine wpc_callI (m' := 9) (me' := cm9) (as := [.int v427, .int x6]) (r := []) rfl rfl rfl rfl rfl ⟨by decide, (by first | decide | exact Nat.le_of_ble_eq_true rfl), (by first | decide | exact Nat.le_of_ble_eq_true rfl), rfl⟩ (calI.mono h432 fun v434 s433 h435 => ?_)
        refine wpc_sl (n := 2) (c' := 11) (pc' := 90) (ls' := [some (.ref 0), some (.int x1), none, some (.int x3), some (.int x4), some (.int x5), some (.int x6), some (.int v427), some (.int v434)]) (st' := [.int v434]) (s' := s433) rfl ?_
        refine wpc_if (a := 96) (b := 93) rfl (by decide) rfl rfl (wpc_br (p := v434 = (0 : Int32)) ⟨fun hc436 => ?_, fun hc436 => ?_⟩)
        · have h437 := h435.1 hc436
          refine wpc_sl (n := 1) (c' := 11) (pc' := 123) (ls' := [some (.ref 0), some (.int x1), none, some (.int x3), some (.int x4), some (.int x5), some (.int x6), some (.int v427), some (.int v434)]) (st' := []) (s' := s433) rfl ?_
          exact wpc_lle (ls := [some (.ref 0), some (.int x1), none, some (.int x3), some (.int x4), some (.int x5), some (.int x6), none, none]) ⟨rfl, rfl, rfl, rfl, rfl, rfl, trivial⟩ h437
        · have h438 := h435.2 hc436
          refine wpc_sl (n := 4) (c' := 11) (pc' := 104) (ls' := [some (.ref 0), some (.int x1), none, some (.int x3), some (.int x4), some (.int x5), some (.int x6), some (.int v427), some (.int v434)]) (st' := [.int x6, .int x4, .ref 10]) (s' := s433) rfl ?_
          refine wpc_staI (a := 9) (N := 16) (s' := (sI s433 10 (ix x4) x6)) rfl rfl (by decide) h438.1 rfl ?_
          have h439 := h438.2
          refine wpc_sl (n := 4) (c' := 11) (pc' := 113) (ls' := [some (.ref 0), some (.int x1), none, some (.int x3), some (.int x4), some (.int x5), some (.int x6), some (.int v427), some (.int v434)]) (st' := [.int v434, .int x4, .ref 11]) (s' := (sI s433 10 (ix x4) x6)) rfl ?_
          refine wpc_staI (a := 10) (N := 16) (s' := (sI (sI s433 10 (ix x4) x6) 11 (ix x4) v434)) rfl rfl (by decide) h439.1 rfl ?_
          have h440 := h439.2
          refine wpc_sl (n := 3) (c' := 11) (pc' := 120) (ls' := [some (.ref 0), some (.int x1), none, some (.int x3), some (.int (x4 + (1 : Int32))), some (.int x5), some (.int x6), some (.int v427), some (.int v434)]) (st' := [.int v427, .ref 0]) (s' := (sI (sI s433 10 (ix x4) x6) 11 (ix x4) v434)) rfl ?_
          refine wpc_callV (m' := 23) (me' := cm23) (as := [.int v427]) (r := []) rfl rfl rfl rfl rfl ⟨by decide, (by first | decide | exact Nat.le_of_ble_eq_true rfl), (by first | decide | exact Nat.le_of_ble_eq_true rfl), rfl⟩ (calV.mono h440 fun s441 h443 => ?_)
          exact wpc_lle (ls := [some (.ref 0), some (.int x1), none, some (.int x3), some (.int (x4 + (1 : Int32))), some (.int x5), some (.int x6), none, none]) ⟨rfl, rfl, rfl, rfl, rfl, rfl, trivial⟩ h443
    · have h425 := h421.2 hc423
      exact wpc_lle (ls := [some (.ref 0), none, none, none, some (.int x4), none, none, none, none]) ⟨rfl, rfl, trivial⟩ h425
  · have h422 := h.2 hc420
    exact wpc_lle (ls := [some (.ref 0), none, none, none, some (.int x4), none, none, none, none]) ⟨rfl, rfl, trivial⟩ h422
theorem c22_123 (x1 : Int32) (x3 : Int32) (x4 : Int32) (x5 : Int32) (x6 : Int32) (s : St) (Q : Int32 → St → Prop) (h : wpcI PP 22 cm22 11 43 [some (.ref 0), some (.int x1), none, some (.int x3), some (.int x4), some (.int x5), some (.int (x6 + (1 : Int32))), none, none] [] s Q) : wpcI PP 22 cm22 11 123 [some (.ref 0), some (.int x1), none, some (.int x3), some (.int x4), some (.int x5), some (.int x6), none, none] [] s Q := by
  refine wpc_sl (n := 2) (c' := 11) (pc' := 43) (ls' := [some (.ref 0), some (.int x1), none, some (.int x3), some (.int x4), some (.int x5), some (.int (x6 + (1 : Int32))), none, none]) (st' := []) (s' := s) rfl ?_
  exact h
theorem c22_129 (x4 : Int32) (s : St) (Q : Int32 → St → Prop) (h : Q x4 (sI s 0 31 x4)) : wpcI PP 22 cm22 11 129 [some (.ref 0), none, none, none, some (.int x4), none, none, none, none] [] s Q := by
  refine wpc_sl (n := 4) (c' := 11) (pc' := 137) (ls' := [some (.ref 0), none, none, none, some (.int x4), none, none, none, none]) (st' := [.int x4]) (s' := (sI s 0 31 x4)) rfl ?_
  exact wpc_ret rfl rfl (fun q => absurd q (by decide)) rfl ⟨x4, rfl, h⟩
theorem l3r2W2_in (N : Nat) (sg : Nat → Int32) (a1 : Int32) (a2 : Int32) (a3 : Int32) (a4 : Int32) (a5 : Int32) (a6 : Int32) (s : St) (t : St) (Q : Int32 → Wd → Prop) (h : ((a1 = (0 : Int32)) → calI PP 15 11 [.ref 0] t (fun v61 s60 => Q v61 (W2 s s60))) ∧ (¬ (a1 = (0 : Int32)) → ((a1 = (1 : Int32)) → calI PP 16 11 [.ref 0, .int a3, .int a6] t (fun v67 s66 => Q v67 (W2 s s66))) ∧ (¬ (a1 = (1 : Int32)) → ((a1 = (2 : Int32)) → calI PP 17 11 [.ref 0, .int a3] t (fun v73 s72 => Q v73 (W2 s s72))) ∧ (¬ (a1 = (2 : Int32)) → ((a1 = (3 : Int32)) → calI PP 18 11 [.ref 0, .int a3] t (fun v79 s78 => Q v79 (W2 s s78))) ∧ (¬ (a1 = (3 : Int32)) → ((a1 = (4 : Int32)) → calI PP 19 11 [.ref 0, .int a2, .int a3, .int a4] t (fun v85 s84 => Q v85 (W2 s s84))) ∧ (¬ (a1 = (4 : Int32)) → ((a1 = (5 : Int32)) → calI PP 20 11 [.ref 0, .int a2, .int a3, .int a4] t (fun v91 s90 => Q v91 (W2 s s90))) ∧ (¬ (a1 = (5 : Int32)) → ((a1 = (6 : Int32)) → calI PP 21 11 [.ref 0, .int a2, .int a3] t (fun v97 s96 => Q v97 (W2 s s96))) ∧ (¬ (a1 = (6 : Int32)) → calI PP 22 11 [.ref 0, .int a2, .int a5] t (fun v100 s99 => Q v100 (W2 s s99)))))))))) : lalI PP QQ (some (N, sg)) 3 [.ref 2, .int a1, .int a2, .int a3, .int a4, .int a5, .int a6] (W2 s t) Q := by
  refine lal_of (me := lm3) (ls := [some (.ref 2), some (.int a1), some (.int a2), some (.int a3), some (.int a4), some (.int a5), some (.int a6)]) rfl (Nat.le_of_ble_eq_true rfl) rfl ?_
  refine wpl_sl (n := 1) (pc' := 1) (ls' := [some (.ref 2), some (.int a1), some (.int a2), some (.int a3), some (.int a4), some (.int a5), some (.int a6)]) (st' := [.int a1]) rfl ?_
  refine wpl_if (a := 9) (b := 4) rfl (by decide) rfl rfl (wpl_br (p := a1 = (0 : Int32)) ⟨fun hc57 => ?_, fun hc57 => ?_⟩)
  · have h58 := h.1 hc57
    refine wpl_sl (n := 1) (pc' := 5) (ls' := [some (.ref 2), some (.int a1), some (.int a2), some (.int a3), some (.int a4), some (.int a5), some (.int a6)]) (st' := [.ref 2]) rfl ?_
    refine wpl_v2b (m' := 15) (me' := cm15) (as := []) (r := []) rfl rfl rfl rfl rfl ⟨by decide, (by first | decide | exact Nat.le_of_ble_eq_true rfl), (by first | decide | exact Nat.le_of_ble_eq_true rfl), rfl⟩ (cal_I (calI.mono h58 fun v61 s60 h62 => ?_))
    exact wpl_ret rfl rfl rfl ⟨v61, rfl, h62⟩
  · have h59 := h.2 hc57
    refine wpl_sl (n := 2) (pc' := 11) (ls' := [some (.ref 2), some (.int a1), some (.int a2), some (.int a3), some (.int a4), some (.int a5), some (.int a6)]) (st' := [.int (1 : Int32), .int a1]) rfl ?_
    refine wpl_icmp (a := 22) (b := 14) rfl (by decide) rfl rfl (wpl_br (p := a1 = (1 : Int32)) ⟨fun hc63 => ?_, fun hc63 => ?_⟩)
    · have h64 := h59.1 hc63
      refine wpl_sl (n := 3) (pc' := 18) (ls' := [some (.ref 2), some (.int a1), some (.int a2), some (.int a3), some (.int a4), some (.int a5), some (.int a6)]) (st' := [.int a6, .int a3, .ref 2]) rfl ?_
      refine wpl_v2b (m' := 16) (me' := cm16) (as := [.int a3, .int a6]) (r := []) rfl rfl rfl rfl rfl ⟨by decide, (by first | decide | exact Nat.le_of_ble_eq_true rfl), (by first | decide | exact Nat.le_of_ble_eq_true rfl), rfl⟩ (cal_I (calI.mono h64 fun v67 s66 h68 => ?_))
      exact wpl_ret rfl rfl rfl ⟨v67, rfl, h68⟩
    · have h65 := h59.2 hc63
      refine wpl_sl (n := 2) (pc' := 24) (ls' := [some (.ref 2), some (.int a1), some (.int a2), some (.int a3), some (.int a4), some (.int a5), some (.int a6)]) (st' := [.int (2 : Int32), .int a1]) rfl ?_
      refine wpl_icmp (a := 33) (b := 27) rfl (by decide) rfl rfl (wpl_br (p := a1 = (2 : Int32)) ⟨fun hc69 => ?_, fun hc69 => ?_⟩)
      · have h70 := h65.1 hc69
        refine wpl_sl (n := 2) (pc' := 29) (ls' := [some (.ref 2), some (.int a1), some (.int a2), some (.int a3), some (.int a4), some (.int a5), some (.int a6)]) (st' := [.int a3, .ref 2]) rfl ?_
        refine wpl_v2b (m' := 17) (me' := cm17) (as := [.int a3]) (r := []) rfl rfl rfl rfl rfl ⟨by decide, (by first | decide | exact Nat.le_of_ble_eq_true rfl), (by first | decide | exact Nat.le_of_ble_eq_true rfl), rfl⟩ (cal_I (calI.mono h70 fun v73 s72 h74 => ?_))
        exact wpl_ret rfl rfl rfl ⟨v73, rfl, h74⟩
      · have h71 := h65.2 hc69
        refine wpl_sl (n := 2) (pc' := 35) (ls' := [some (.ref 2), some (.int a1), some (.int a2), some (.int a3), some (.int a4), some (.int a5), some (.int a6)]) (st' := [.int (3 : Int32), .int a1]) rfl ?_
        refine wpl_icmp (a := 44) (b := 38) rfl (by decide) rfl rfl (wpl_br (p := a1 = (3 : Int32)) ⟨fun hc75 => ?_, fun hc75 => ?_⟩)
        · have h76 := h71.1 hc75
          refine wpl_sl (n := 2) (pc' := 40) (ls' := [some (.ref 2), some (.int a1), some (.int a2), some (.int a3), some (.int a4), some (.int a5), some (.int a6)]) (st' := [.int a3, .ref 2]) rfl ?_
          refine wpl_v2b (m' := 18) (me' := cm18) (as := [.int a3]) (r := []) rfl rfl rfl rfl rfl ⟨by decide, (by first | decide | exact Nat.le_of_ble_eq_true rfl), (by first | decide | exact Nat.le_of_ble_eq_true rfl), rfl⟩ (cal_I (calI.mono h76 fun v79 s78 h80 => ?_))
          exact wpl_ret rfl rfl rfl ⟨v79, rfl, h80⟩
        · have h77 := h71.2 hc75
          refine wpl_sl (n := 2) (pc' := 46) (ls' := [some (.ref 2), some (.int a1), some (.int a2), some (.int a3), some (.int a4), some (.int a5), some (.int a6)]) (st' := [.int (4 : Int32), .int a1]) rfl ?_
          refine wpl_icmp (a := 58) (b := 49) rfl (by decide) rfl rfl (wpl_br (p := a1 = (4 : Int32)) ⟨fun hc81 => ?_, fun hc81 => ?_⟩)
          · have h82 := h77.1 hc81
            refine wpl_sl (n := 4) (pc' := 54) (ls' := [some (.ref 2), some (.int a1), some (.int a2), some (.int a3), some (.int a4), some (.int a5), some (.int a6)]) (st' := [.int a4, .int a3, .int a2, .ref 2]) rfl ?_
            refine wpl_v2b (m' := 19) (me' := cm19) (as := [.int a2, .int a3, .int a4]) (r := []) rfl rfl rfl rfl rfl ⟨by decide, (by first | decide | exact Nat.le_of_ble_eq_true rfl), (by first | decide | exact Nat.le_of_ble_eq_true rfl), rfl⟩ (cal_I (calI.mono h82 fun v85 s84 h86 => ?_))
            exact wpl_ret rfl rfl rfl ⟨v85, rfl, h86⟩
          · have h83 := h77.2 hc81
            refine wpl_sl (n := 2) (pc' := 60) (ls' := [some (.ref 2), some (.int a1), some (.int a2), some (.int a3), some (.int a4), some (.int a5), some (.int a6)]) (st' := [.int (5 : Int32), .int a1]) rfl ?_
            refine wpl_icmp (a := 72) (b := 63) rfl (by decide) rfl rfl (wpl_br (p := a1 = (5 : Int32)) ⟨fun hc87 => ?_, fun hc87 => ?_⟩)
            · have h88 := h83.1 hc87
              refine wpl_sl (n := 4) (pc' := 68) (ls' := [some (.ref 2), some (.int a1), some (.int a2), some (.int a3), some (.int a4), some (.int a5), some (.int a6)]) (st' := [.int a4, .int a3, .int a2, .ref 2]) rfl ?_
              refine wpl_v2b (m' := 20) (me' := cm20) (as := [.int a2, .int a3, .int a4]) (r := []) rfl rfl rfl rfl rfl ⟨by decide, (by first | decide | exact Nat.le_of_ble_eq_true rfl), (by first | decide | exact Nat.le_of_ble_eq_true rfl), rfl⟩ (cal_I (calI.mono h88 fun v91 s90 h92 => ?_))
              exact wpl_ret rfl rfl rfl ⟨v91, rfl, h92⟩
            · have h89 := h83.2 hc87
              refine wpl_sl (n := 2) (pc' := 75) (ls' := [some (.ref 2), some (.int a1), some (.int a2), some (.int a3), some (.int a4), some (.int a5), some (.int a6)]) (st' := [.int (6 : Int32), .int a1]) rfl ?_
              refine wpl_icmp (a := 85) (b := 78) rfl (by decide) rfl rfl (wpl_br (p := a1 = (6 : Int32)) ⟨fun hc93 => ?_, fun hc93 => ?_⟩)
              · have h94 := h89.1 hc93
                refine wpl_sl (n := 3) (pc' := 81) (ls' := [some (.ref 2), some (.int a1), some (.int a2), some (.int a3), some (.int a4), some (.int a5), some (.int a6)]) (st' := [.int a3, .int a2, .ref 2]) rfl ?_
                refine wpl_v2b (m' := 21) (me' := cm21) (as := [.int a2, .int a3]) (r := []) rfl rfl rfl rfl rfl ⟨by decide, (by first | decide | exact Nat.le_of_ble_eq_true rfl), (by first | decide | exact Nat.le_of_ble_eq_true rfl), rfl⟩ (cal_I (calI.mono h94 fun v97 s96 h98 => ?_))
                exact wpl_ret rfl rfl rfl ⟨v97, rfl, h98⟩
              · have h95 := h89.2 hc93
                refine wpl_sl (n := 3) (pc' := 89) (ls' := [some (.ref 2), some (.int a1), some (.int a2), some (.int a3), some (.int a4), some (.int a5), some (.int a6)]) (st' := [.int a5, .int a2, .ref 2]) rfl ?_
                refine wpl_v2b (m' := 22) (me' := cm22) (as := [.int a2, .int a5]) (r := []) rfl rfl rfl rfl rfl ⟨by decide, (by first | decide | exact Nat.le_of_ble_eq_true rfl), (by first | decide | exact Nat.le_of_ble_eq_true rfl), rfl⟩ (cal_I (calI.mono h95 fun v100 s99 h101 => ?_))
                exact wpl_ret rfl rfl rfl ⟨v100, rfl, h101⟩
theorem l3r1W2_in (N : Nat) (sg : Nat → Int32) (a1 : Int32) (a2 : Int32) (a3 : Int32) (a4 : Int32) (a5 : Int32) (a6 : Int32) (s : St) (t : St) (Q : Int32 → Wd → Prop) (h : ((a1 = (0 : Int32)) → calI PP 15 11 [.ref 0] s (fun v475 s474 => Q v475 (W2 s474 t))) ∧ (¬ (a1 = (0 : Int32)) → ((a1 = (1 : Int32)) → calI PP 16 11 [.ref 0, .int a3, .int a6] s (fun v481 s480 => Q v481 (W2 s480 t))) ∧ (¬ (a1 = (1 : Int32)) → ((a1 = (2 : Int32)) → calI PP 17 11 [.ref 0, .int a3] s (fun v487 s486 => Q v487 (W2 s486 t))) ∧ (¬ (a1 = (2 : Int32)) → ((a1 = (3 : Int32)) → calI PP 18 11 [.ref 0, .int a3] s (fun v493 s492 => Q v493 (W2 s492 t))) ∧ (¬ (a1 = (3 : Int32)) → ((a1 = (4 : Int32)) → calI PP 19 11 [.ref 0, .int a2, .int a3, .int a4] s (fun v499 s498 => Q v499 (W2 s498 t))) ∧ (¬ (a1 = (4 : Int32)) → ((a1 = (5 : Int32)) → calI PP 20 11 [.ref 0, .int a2, .int a3, .int a4] s (fun v505 s504 => Q v505 (W2 s504 t))) ∧ (¬ (a1 = (5 : Int32)) → ((a1 = (6 : Int32)) → calI PP 21 11 [.ref 0, .int a2, .int a3] s (fun v511 s510 => Q v511 (W2 s510 t))) ∧ (¬ (a1 = (6 : Int32)) → calI PP 22 11 [.ref 0, .int a2, .int a5] s (fun v514 s513 => Q v514 (W2 s513 t)))))))))) : lalI PP QQ (some (N, sg)) 3 [.ref 1, .int a1, .int a2, .int a3, .int a4, .int a5, .int a6] (W2 s t) Q := by
  refine lal_of (me := lm3) (ls := [some (.ref 1), some (.int a1), some (.int a2), some (.int a3), some (.int a4), some (.int a5), some (.int a6)]) rfl (Nat.le_of_ble_eq_true rfl) rfl ?_
  refine wpl_sl (n := 1) (pc' := 1) (ls' := [some (.ref 1), some (.int a1), some (.int a2), some (.int a3), some (.int a4), some (.int a5), some (.int a6)]) (st' := [.int a1]) rfl ?_
  refine wpl_if (a := 9) (b := 4) rfl (by decide) rfl rfl (wpl_br (p := a1 = (0 : Int32)) ⟨fun hc471 => ?_, fun hc471 => ?_⟩)
  · have h472 := h.1 hc471
    refine wpl_sl (n := 1) (pc' := 5) (ls' := [some (.ref 1), some (.int a1), some (.int a2), some (.int a3), some (.int a4), some (.int a5), some (.int a6)]) (st' := [.ref 1]) rfl ?_
    refine wpl_v2a (m' := 15) (me' := cm15) (as := []) (r := []) rfl rfl rfl rfl rfl ⟨by decide, (by first | decide | exact Nat.le_of_ble_eq_true rfl), (by first | decide | exact Nat.le_of_ble_eq_true rfl), rfl⟩ (cal_I (calI.mono h472 fun v475 s474 h476 => ?_))
    exact wpl_ret rfl rfl rfl ⟨v475, rfl, h476⟩
  · have h473 := h.2 hc471
    refine wpl_sl (n := 2) (pc' := 11) (ls' := [some (.ref 1), some (.int a1), some (.int a2), some (.int a3), some (.int a4), some (.int a5), some (.int a6)]) (st' := [.int (1 : Int32), .int a1]) rfl ?_
    refine wpl_icmp (a := 22) (b := 14) rfl (by decide) rfl rfl (wpl_br (p := a1 = (1 : Int32)) ⟨fun hc477 => ?_, fun hc477 => ?_⟩)
    · have h478 := h473.1 hc477
      refine wpl_sl (n := 3) (pc' := 18) (ls' := [some (.ref 1), some (.int a1), some (.int a2), some (.int a3), some (.int a4), some (.int a5), some (.int a6)]) (st' := [.int a6, .int a3, .ref 1]) rfl ?_
      refine wpl_v2a (m' := 16) (me' := cm16) (as := [.int a3, .int a6]) (r := []) rfl rfl rfl rfl rfl ⟨by decide, (by first | decide | exact Nat.le_of_ble_eq_true rfl), (by first | decide | exact Nat.le_of_ble_eq_true rfl), rfl⟩ (cal_I (calI.mono h478 fun v481 s480 h482 => ?_))
      exact wpl_ret rfl rfl rfl ⟨v481, rfl, h482⟩
    · have h479 := h473.2 hc477
      refine wpl_sl (n := 2) (pc' := 24) (ls' := [some (.ref 1), some (.int a1), some (.int a2), some (.int a3), some (.int a4), some (.int a5), some (.int a6)]) (st' := [.int (2 : Int32), .int a1]) rfl ?_
      refine wpl_icmp (a := 33) (b := 27) rfl (by decide) rfl rfl (wpl_br (p := a1 = (2 : Int32)) ⟨fun hc483 => ?_, fun hc483 => ?_⟩)
      · have h484 := h479.1 hc483
        refine wpl_sl (n := 2) (pc' := 29) (ls' := [some (.ref 1), some (.int a1), some (.int a2), some (.int a3), some (.int a4), some (.int a5), some (.int a6)]) (st' := [.int a3, .ref 1]) rfl ?_
        refine wpl_v2a (m' := 17) (me' := cm17) (as := [.int a3]) (r := []) rfl rfl rfl rfl rfl ⟨by decide, (by first | decide | exact Nat.le_of_ble_eq_true rfl), (by first | decide | exact Nat.le_of_ble_eq_true rfl), rfl⟩ (cal_I (calI.mono h484 fun v487 s486 h488 => ?_))
        exact wpl_ret rfl rfl rfl ⟨v487, rfl, h488⟩
      · have h485 := h479.2 hc483
        refine wpl_sl (n := 2) (pc' := 35) (ls' := [some (.ref 1), some (.int a1), some (.int a2), some (.int a3), some (.int a4), some (.int a5), some (.int a6)]) (st' := [.int (3 : Int32), .int a1]) rfl ?_
        refine wpl_icmp (a := 44) (b := 38) rfl (by decide) rfl rfl (wpl_br (p := a1 = (3 : Int32)) ⟨fun hc489 => ?_, fun hc489 => ?_⟩)
        · have h490 := h485.1 hc489
          refine wpl_sl (n := 2) (pc' := 40) (ls' := [some (.ref 1), some (.int a1), some (.int a2), some (.int a3), some (.int a4), some (.int a5), some (.int a6)]) (st' := [.int a3, .ref 1]) rfl ?_
          refine wpl_v2a (m' := 18) (me' := cm18) (as := [.int a3]) (r := []) rfl rfl rfl rfl rfl ⟨by decide, (by first | decide | exact Nat.le_of_ble_eq_true rfl), (by first | decide | exact Nat.le_of_ble_eq_true rfl), rfl⟩ (cal_I (calI.mono h490 fun v493 s492 h494 => ?_))
          exact wpl_ret rfl rfl rfl ⟨v493, rfl, h494⟩
        · have h491 := h485.2 hc489
          refine wpl_sl (n := 2) (pc' := 46) (ls' := [some (.ref 1), some (.int a1), some (.int a2), some (.int a3), some (.int a4), some (.int a5), some (.int a6)]) (st' := [.int (4 : Int32), .int a1]) rfl ?_
          refine wpl_icmp (a := 58) (b := 49) rfl (by decide) rfl rfl (wpl_br (p := a1 = (4 : Int32)) ⟨fun hc495 => ?_, fun hc495 => ?_⟩)
          · have h496 := h491.1 hc495
            refine wpl_sl (n := 4) (pc' := 54) (ls' := [some (.ref 1), some (.int a1), some (.int a2), some (.int a3), some (.int a4), some (.int a5), some (.int a6)]) (st' := [.int a4, .int a3, .int a2, .ref 1]) rfl ?_
            refine wpl_v2a (m' := 19) (me' := cm19) (as := [.int a2, .int a3, .int a4]) (r := []) rfl rfl rfl rfl rfl ⟨by decide, (by first | decide | exact Nat.le_of_ble_eq_true rfl), (by first | decide | exact Nat.le_of_ble_eq_true rfl), rfl⟩ (cal_I (calI.mono h496 fun v499 s498 h500 => ?_))
            exact wpl_ret rfl rfl rfl ⟨v499, rfl, h500⟩
          · have h497 := h491.2 hc495
            refine wpl_sl (n := 2) (pc' := 60) (ls' := [some (.ref 1), some (.int a1), some (.int a2), some (.int a3), some (.int a4), some (.int a5), some (.int a6)]) (st' := [.int (5 : Int32), .int a1]) rfl ?_
            refine wpl_icmp (a := 72) (b := 63) rfl (by decide) rfl rfl (wpl_br (p := a1 = (5 : Int32)) ⟨fun hc501 => ?_, fun hc501 => ?_⟩)
            · have h502 := h497.1 hc501
              refine wpl_sl (n := 4) (pc' := 68) (ls' := [some (.ref 1), some (.int a1), some (.int a2), some (.int a3), some (.int a4), some (.int a5), some (.int a6)]) (st' := [.int a4, .int a3, .int a2, .ref 1]) rfl ?_
              refine wpl_v2a (m' := 20) (me' := cm20) (as := [.int a2, .int a3, .int a4]) (r := []) rfl rfl rfl rfl rfl ⟨by decide, (by first | decide | exact Nat.le_of_ble_eq_true rfl), (by first | decide | exact Nat.le_of_ble_eq_true rfl), rfl⟩ (cal_I (calI.mono h502 fun v505 s504 h506 => ?_))
              exact wpl_ret rfl rfl rfl ⟨v505, rfl, h506⟩
            · have h503 := h497.2 hc501
              refine wpl_sl (n := 2) (pc' := 75) (ls' := [some (.ref 1), some (.int a1), some (.int a2), some (.int a3), some (.int a4), some (.int a5), some (.int a6)]) (st' := [.int (6 : Int32), .int a1]) rfl ?_
              refine wpl_icmp (a := 85) (b := 78) rfl (by decide) rfl rfl (wpl_br (p := a1 = (6 : Int32)) ⟨fun hc507 => ?_, fun hc507 => ?_⟩)
              · have h508 := h503.1 hc507
                refine wpl_sl (n := 3) (pc' := 81) (ls' := [some (.ref 1), some (.int a1), some (.int a2), some (.int a3), some (.int a4), some (.int a5), some (.int a6)]) (st' := [.int a3, .int a2, .ref 1]) rfl ?_
                refine wpl_v2a (m' := 21) (me' := cm21) (as := [.int a2, .int a3]) (r := []) rfl rfl rfl rfl rfl ⟨by decide, (by first | decide | exact Nat.le_of_ble_eq_true rfl), (by first | decide | exact Nat.le_of_ble_eq_true rfl), rfl⟩ (cal_I (calI.mono h508 fun v511 s510 h512 => ?_))
                exact wpl_ret rfl rfl rfl ⟨v511, rfl, h512⟩
              · have h509 := h503.2 hc507
                refine wpl_sl (n := 3) (pc' := 89) (ls' := [some (.ref 1), some (.int a1), some (.int a2), some (.int a3), some (.int a4), some (.int a5), some (.int a6)]) (st' := [.int a5, .int a2, .ref 1]) rfl ?_
                refine wpl_v2a (m' := 22) (me' := cm22) (as := [.int a2, .int a5]) (r := []) rfl rfl rfl rfl rfl ⟨by decide, (by first | decide | exact Nat.le_of_ble_eq_true rfl), (by first | decide | exact Nat.le_of_ble_eq_true rfl), rfl⟩ (cal_I (calI.mono h509 fun v514 s513 h515 => ?_))
                exact wpl_ret rfl rfl rfl ⟨v514, rfl, h515⟩
theorem c26_in (a1 : Int32) (s : St) (Q : Int32 → St → Prop) (h : ((a1 < (0 : Int32)) → Q (-1 : Int32) s) ∧ (¬ (a1 < (0 : Int32)) → ((a1 < (gI s 0 17)) → inb 8 a1 ∧ (((gI s 1 (ix a1)) = (0 : Int32)) → inb 8 a1 ∧ (((gI s 2 (ix a1)) = (0 : Int32)) → Q (-1 : Int32) s) ∧ (¬ ((gI s 2 (ix a1)) = (0 : Int32)) → inb 8 a1 ∧ Q (gI s 5 (ix a1)) s)) ∧ (¬ ((gI s 1 (ix a1)) = (0 : Int32)) → inb 8 a1 ∧ Q (gI s 5 (ix a1)) s)) ∧ (¬ (a1 < (gI s 0 17)) → Q (-1 : Int32) s))) : calI PP 26 11 [.ref 0, .int a1] s Q := by
  refine cal_of (me := cm26) (ls := [some (.ref 0), some (.int a1)]) rfl (Nat.le_of_ble_eq_true rfl) rfl ?_
  refine wpc_sl (n := 1) (c' := 11) (pc' := 1) (ls' := [some (.ref 0), some (.int a1)]) (st' := [.int a1]) (s' := s) rfl ?_
  refine wpc_if (a := 12) (b := 4) rfl (by decide) rfl rfl (wpc_br (p := a1 < (0 : Int32)) ⟨fun hc585 => ?_, fun hc585 => ?_⟩)
  · have h586 := h.1 hc585
    refine wpc_sl (n := 1) (c' := 11) (pc' := 13) (ls' := [some (.ref 0), some (.int a1)]) (st' := [.int (-1 : Int32)]) (s' := s) rfl ?_
    exact wpc_ret rfl rfl (fun q => absurd q (by decide)) rfl ⟨(-1 : Int32), rfl, h586⟩
  · have h587 := h.2 hc585
    refine wpc_sl (n := 3) (c' := 11) (pc' := 9) (ls' := [some (.ref 0), some (.int a1)]) (st' := [.int (gI s 0 17), .int a1]) (s' := s) rfl ?_
    refine wpc_icmp (a := 14) (b := 12) rfl (by decide) rfl rfl (wpc_br (p := a1 < (gI s 0 17)) ⟨fun hc588 => ?_, fun hc588 => ?_⟩)
    · have h589 := h587.1 hc588
      refine wpc_sl (n := 3) (c' := 11) (pc' := 19) (ls' := [some (.ref 0), some (.int a1)]) (st' := [.int a1, .ref 1]) (s' := s) rfl ?_
      refine wpc_ldaZ (a := 0) (N := 8) (v := (gI s 1 (ix a1))) rfl rfl (by decide) h589.1 rfl ?_
      have h591 := h589.2
      refine wpc_if (a := 34) (b := 23) rfl (by decide) rfl rfl (wpc_br (p := (gI s 1 (ix a1)) = (0 : Int32)) ⟨fun hc592 => ?_, fun hc592 => ?_⟩)
      · have h593 := h591.1 hc592
        refine wpc_sl (n := 3) (c' := 11) (pc' := 28) (ls' := [some (.ref 0), some (.int a1)]) (st' := [.int a1, .ref 2]) (s' := s) rfl ?_
        refine wpc_ldaZ (a := 1) (N := 8) (v := (gI s 2 (ix a1))) rfl rfl (by decide) h593.1 rfl ?_
        have h595 := h593.2
        refine wpc_if (a := 34) (b := 32) rfl (by decide) rfl rfl (wpc_br (p := (gI s 2 (ix a1)) = (0 : Int32)) ⟨fun hc596 => ?_, fun hc596 => ?_⟩)
        · have h597 := h595.1 hc596
          refine wpc_sl (n := 1) (c' := 11) (pc' := 33) (ls' := [some (.ref 0), some (.int a1)]) (st' := [.int (-1 : Int32)]) (s' := s) rfl ?_
          exact wpc_ret rfl rfl (fun q => absurd q (by decide)) rfl ⟨(-1 : Int32), rfl, h597⟩
        · have h598 := h595.2 hc596
          refine wpc_sl (n := 3) (c' := 11) (pc' := 39) (ls' := [some (.ref 0), some (.int a1)]) (st' := [.int a1, .ref 5]) (s' := s) rfl ?_
          refine wpc_ldaI (a := 4) (N := 8) (v := (gI s 5 (ix a1))) rfl rfl (by decide) h598.1 rfl ?_
          have h599 := h598.2
          exact wpc_ret rfl rfl (fun q => absurd q (by decide)) rfl ⟨(gI s 5 (ix a1)), rfl, h599⟩
      · have h594 := h591.2 hc592
        refine wpc_sl (n := 3) (c' := 11) (pc' := 39) (ls' := [some (.ref 0), some (.int a1)]) (st' := [.int a1, .ref 5]) (s' := s) rfl ?_
        refine wpc_ldaI (a := 4) (N := 8) (v := (gI s 5 (ix a1))) rfl rfl (by decide) h594.1 rfl ?_
        have h600 := h594.2
        exact wpc_ret rfl rfl (fun q => absurd q (by decide)) rfl ⟨(gI s 5 (ix a1)), rfl, h600⟩
    · have h590 := h587.2 hc588
      refine wpc_sl (n := 1) (c' := 11) (pc' := 13) (ls' := [some (.ref 0), some (.int a1)]) (st' := [.int (-1 : Int32)]) (s' := s) rfl ?_
      exact wpc_ret rfl rfl (fun q => absurd q (by decide)) rfl ⟨(-1 : Int32), rfl, h590⟩
theorem c27_in (a1 : Int32) (s : St) (Q : Int32 → St → Prop) (h : calI PP 3 11 [.ref 0, .int a1] s (fun v602 s601 => ((v602 = (0 : Int32)) → Q (-1 : Int32) s601) ∧ (¬ (v602 = (0 : Int32)) → calI PP 4 11 [.ref 0, .int a1] s601 (fun v608 s607 => Q v608 s607)))) : calI PP 27 11 [.ref 0, .int a1] s Q := by
  refine cal_of (me := cm27) (ls := [some (.ref 0), some (.int a1)]) rfl (Nat.le_of_ble_eq_true rfl) rfl ?_
  refine wpc_sl (n := 2) (c' := 11) (pc' := 2) (ls' := [some (.ref 0), some (.int a1)]) (st' := [.int a1, .ref 0]) (s' := s) rfl ?_
  refine wpc_callI (m' := 3) (me' := cm3) (as := [.int a1]) (r := []) rfl rfl rfl rfl rfl ⟨by decide, (by first | decide | exact Nat.le_of_ble_eq_true rfl), (by first | decide | exact Nat.le_of_ble_eq_true rfl), rfl⟩ (calI.mono h fun v602 s601 h603 => ?_)
  refine wpc_if (a := 10) (b := 8) rfl (by decide) rfl rfl (wpc_br (p := v602 = (0 : Int32)) ⟨fun hc604 => ?_, fun hc604 => ?_⟩)
  · have h605 := h603.1 hc604
    refine wpc_sl (n := 1) (c' := 11) (pc' := 9) (ls' := [some (.ref 0), some (.int a1)]) (st' := [.int (-1 : Int32)]) (s' := s601) rfl ?_
    exact wpc_ret rfl rfl (fun q => absurd q (by decide)) rfl ⟨(-1 : Int32), rfl, h605⟩
  · have h606 := h603.2 hc604
    refine wpc_sl (n := 2) (c' := 11) (pc' := 12) (ls' := [some (.ref 0), some (.int a1)]) (st' := [.int a1, .ref 0]) (s' := s601) rfl ?_
    refine wpc_callI (m' := 4) (me' := cm4) (as := [.int a1]) (r := []) rfl rfl rfl rfl rfl ⟨by decide, (by first | decide | exact Nat.le_of_ble_eq_true rfl), (by first | decide | exact Nat.le_of_ble_eq_true rfl), rfl⟩ (calI.mono h606 fun v608 s607 h609 => ?_)
    exact wpc_ret rfl rfl (fun q => absurd q (by decide)) rfl ⟨v608, rfl, h609⟩
theorem c30_in (a1 : Int32) (s : St) (Q : Int32 → St → Prop) (h : calI PP 6 11 [.ref 0, .int a1] s (fun v611 s610 => ((v611 = (0 : Int32)) → Q (-1 : Int32) s610) ∧ (¬ (v611 = (0 : Int32)) → wpcI PP 30 cm30 11 22 [some (.ref 0), some (.int a1), some (.int (0 : Int32)), some (.int ((2 : Int32) * (gI s610 0 17))), some (.int (0 : Int32)), none] [] s610 Q))) : calI PP 30 11 [.ref 0, .int a1] s Q := by
  refine cal_of (me := cm30) (ls := [some (.ref 0), some (.int a1), none, none, none, none]) rfl (Nat.le_of_ble_eq_true rfl) rfl ?_
  refine wpc_sl (n := 2) (c' := 11) (pc' := 2) (ls' := [some (.ref 0), some (.int a1), none, none, none, none]) (st' := [.int a1, .ref 0]) (s' := s) rfl ?_
  refine wpc_callI (m' := 6) (me' := cm6) (as := [.int a1]) (r := []) rfl rfl rfl rfl rfl ⟨by decide, (by first | decide | exact Nat.le_of_ble_eq_true rfl), (by first | decide | exact Nat.le_of_ble_eq_true rfl), rfl⟩ (calI.mono h fun v611 s610 h612 => ?_)
  refine wpc_if (a := 10) (b := 8) rfl (by decide) rfl rfl (wpc_br (p := v611 = (0 : Int32)) ⟨fun hc613 => ?_, fun hc613 => ?_⟩)
  · have h614 := h612.1 hc613
    refine wpc_sl (n := 1) (c' := 11) (pc' := 9) (ls' := [some (.ref 0), some (.int a1), none, none, none, none]) (st' := [.int (-1 : Int32)]) (s' := s610) rfl ?_
    exact wpc_ret rfl rfl (fun q => absurd q (by decide)) rfl ⟨(-1 : Int32), rfl, h614⟩
  · have h615 := h612.2 hc613
    refine wpc_sl (n := 9) (c' := 11) (pc' := 22) (ls' := [some (.ref 0), some (.int a1), some (.int (0 : Int32)), some (.int ((2 : Int32) * (gI s610 0 17))), some (.int (0 : Int32)), none]) (st' := []) (s' := s610) rfl ?_
    exact h615
theorem c30_22 (x1 : Int32) (x2 : Int32) (x3 : Int32) (x4 : Int32) (s : St) (Q : Int32 → St → Prop) (h : ((x4 < x3) → calI PP 8 11 [.ref 0, .int x1, .int x4] s (fun v620 s619 => inb 64 v620 ∧ (((gI s619 6 (ix v620)) = (0 : Int32)) → wpcI PP 30 cm30 11 61 [some (.ref 0), some (.int x1), some (.int x2), some (.int x3), some (.int x4), none] [] s619 Q) ∧ (¬ ((gI s619 6 (ix v620)) = (0 : Int32)) → calI PP 9 11 [.ref 0, .int v620, .int x4] s619 (fun v627 s626 => ∀ m629, m629 = (if v627 = (0 : Int32) then x2 else (x2 + (1 : Int32))) → (wpcI PP 30 cm30 11 61 [some (.ref 0), some (.int x1), some (.int m629), some (.int x3), some (.int x4), none] [] s626 Q))))) ∧ (¬ (x4 < x3) → Q x2 s)) : wpcI PP 30 cm30 11 22 [some (.ref 0), some (.int x1), some (.int x2), some (.int x3), some (.int x4), none] [] s Q := by
  refine wpc_sl (n := 2) (c' := 11) (pc' := 25) (ls' := [some (.ref 0), some (.int x1), some (.int x2), some (.int x3), some (.int x4), none]) (st' := [.int x3, .int x4]) (s' := s) rfl ?_
  refine wpc_icmp (a := 67) (b := 28) rfl (by decide) rfl rfl (wpc_br (p := x4 < x3) ⟨fun hc616 => ?_, fun hc616 => ?_⟩)
  · have h617 := h.1 hc616
    refine wpc_sl (n := 3) (c' := 11) (pc' := 32) (ls' := [some (.ref 0), some (.int x1), some (.int x2), some (.int x3), some (.int x4), none]) (st' := [.int x4, .int x1, .ref 0]) (s' := s) rfl ?_
    refine wpc_callI (m' := 8) (me' := cm8) (as := [.int x1, .int x4]) (r := []) rfl rfl rfl rfl rfl ⟨by decide, (by first | decide | exact Nat.le_of_ble_eq_true rfl), (by first | decide | exact Nat.le_of_ble_eq_true rfl), rfl⟩ (calI.mono h617 fun v620 s619 h621 => ?_)
    refine wpc_sl (n := 4) (c' := 11) (pc' := 43) (ls' := [some (.ref 0), some (.int x1), some (.int x2), some (.int x3), some (.int x4), some (.int v620)]) (st' := [.int v620, .ref 6]) (s' := s619) rfl ?_
    refine wpc_ldaZ (a := 5) (N := 64) (v := (gI s619 6 (ix v620))) rfl rfl (by decide) h621.1 rfl ?_
    have h622 := h621.2
    refine wpc_if (a := 61) (b := 47) rfl (by decide) rfl rfl (wpc_br (p := (gI s619 6 (ix v620)) = (0 : Int32)) ⟨fun hc623 => ?_, fun hc623 => ?_⟩)
    · have h624 := h622.1 hc623
      exact wpc_lle (ls := [some (.ref 0), some (.int x1), some (.int x2), some (.int x3), some (.int x4), none]) ⟨rfl, rfl, rfl, rfl, rfl, trivial⟩ h624
    · have h625 := h622.2 hc623
      refine wpc_sl (n := 3) (c' := 11) (pc' := 52) (ls' := [some (.ref 0), some (.int x1), some (.int x2), some (.int x3), some (.int x4), some (.int v620)]) (st' := [.int x4, .int v620, .ref 0]) (s' := s619) rfl ?_
      refine wpc_callI (m' := 9) (me' := cm9) (as := [.int v620, .int x4]) (r := []) rfl rfl rfl rfl rfl ⟨by decide, (by first | decide | exact Nat.le_of_ble_eq_true rfl), (by first | decide | exact Nat.le_of_ble_eq_true rfl), rfl⟩ (calI.mono h625 fun v627 s626 h628 => ?_)
      have hm630 : ∀ m629, m629 = (if v627 = (0 : Int32) then x2 else (x2 + (1 : Int32))) → wpcI PP 30 cm30 11 61 [some (.ref 0), some (.int x1), some (.int m629), some (.int x3), some (.int x4), some (.int v620)] [] s626 Q := by
        intro m629 em629
        have h631 := h628 m629 em629
        exact wpc_lle (ls := [some (.ref 0), some (.int x1), some (.int m629), some (.int x3), some (.int x4), none]) ⟨rfl, rfl, rfl, rfl, rfl, trivial⟩ h631
      refine wpc_if (a := 61) (b := 58) rfl (by decide) rfl rfl (wpc_br (p := v627 = (0 : Int32)) ⟨fun hc632 => ?_, fun hc632 => ?_⟩)
      · first | exact hm630 _ (by simp only [if_pos hc632]) | exact wpc_lle (by repeat (first | exact trivial | refine ⟨rfl, ?_⟩)) (hm630 _ (by simp only [if_pos hc632]))
      · refine wpc_sl (n := 1) (c' := 11) (pc' := 61) (ls' := [some (.ref 0), some (.int x1), some (.int (x2 + (1 : Int32))), some (.int x3), some (.int x4), some (.int v620)]) (st' := []) (s' := s626) rfl ?_
        first | exact hm630 _ (by simp only [if_neg hc632]) | exact wpc_lle (by repeat (first | exact trivial | refine ⟨rfl, ?_⟩)) (hm630 _ (by simp only [if_neg hc632]))
  · have h618 := h.2 hc616
    refine wpc_sl (n := 1) (c' := 11) (pc' := 68) (ls' := [some (.ref 0), some (.int x1), some (.int x2), some (.int x3), some (.int x4), none]) (st' := [.int x2]) (s' := s) rfl ?_
    exact wpc_ret rfl rfl (fun q => absurd q (by decide)) rfl ⟨x2, rfl, h618⟩
theorem c30_61 (x1 : Int32) (x2 : Int32) (x3 : Int32) (x4 : Int32) (s : St) (Q : Int32 → St → Prop) (h : wpcI PP 30 cm30 11 22 [some (.ref 0), some (.int x1), some (.int x2), some (.int x3), some (.int (x4 + (1 : Int32))), none] [] s Q) : wpcI PP 30 cm30 11 61 [some (.ref 0), some (.int x1), some (.int x2), some (.int x3), some (.int x4), none] [] s Q := by
  refine wpc_sl (n := 2) (c' := 11) (pc' := 22) (ls' := [some (.ref 0), some (.int x1), some (.int x2), some (.int x3), some (.int (x4 + (1 : Int32))), none]) (st' := []) (s' := s) rfl ?_
  exact h
theorem c24_in (a1 : Int32) (s : St) (Q : Int32 → St → Prop) (h : ((a1 < (0 : Int32)) → Q (-1 : Int32) s) ∧ (¬ (a1 < (0 : Int32)) → ((a1 < (gI s 0 31)) → inb 16 a1 ∧ Q (gI s 10 (ix a1)) s) ∧ (¬ (a1 < (gI s 0 31)) → Q (-1 : Int32) s))) : calI PP 24 11 [.ref 0, .int a1] s Q := by
  refine cal_of (me := cm24) (ls := [some (.ref 0), some (.int a1)]) rfl (Nat.le_of_ble_eq_true rfl) rfl ?_
  refine wpc_sl (n := 1) (c' := 11) (pc' := 1) (ls' := [some (.ref 0), some (.int a1)]) (st' := [.int a1]) (s' := s) rfl ?_
  refine wpc_if (a := 12) (b := 4) rfl (by decide) rfl rfl (wpc_br (p := a1 < (0 : Int32)) ⟨fun hc633 => ?_, fun hc633 => ?_⟩)
  · have h634 := h.1 hc633
    refine wpc_sl (n := 1) (c' := 11) (pc' := 13) (ls' := [some (.ref 0), some (.int a1)]) (st' := [.int (-1 : Int32)]) (s' := s) rfl ?_
    exact wpc_ret rfl rfl (fun q => absurd q (by decide)) rfl ⟨(-1 : Int32), rfl, h634⟩
  · have h635 := h.2 hc633
    refine wpc_sl (n := 3) (c' := 11) (pc' := 9) (ls' := [some (.ref 0), some (.int a1)]) (st' := [.int (gI s 0 31), .int a1]) (s' := s) rfl ?_
    refine wpc_icmp (a := 14) (b := 12) rfl (by decide) rfl rfl (wpc_br (p := a1 < (gI s 0 31)) ⟨fun hc636 => ?_, fun hc636 => ?_⟩)
    · have h637 := h635.1 hc636
      refine wpc_sl (n := 3) (c' := 11) (pc' := 19) (ls' := [some (.ref 0), some (.int a1)]) (st' := [.int a1, .ref 10]) (s' := s) rfl ?_
      refine wpc_ldaI (a := 9) (N := 16) (v := (gI s 10 (ix a1))) rfl rfl (by decide) h637.1 rfl ?_
      have h639 := h637.2
      exact wpc_ret rfl rfl (fun q => absurd q (by decide)) rfl ⟨(gI s 10 (ix a1)), rfl, h639⟩
    · have h638 := h635.2 hc636
      refine wpc_sl (n := 1) (c' := 11) (pc' := 13) (ls' := [some (.ref 0), some (.int a1)]) (st' := [.int (-1 : Int32)]) (s' := s) rfl ?_
      exact wpc_ret rfl rfl (fun q => absurd q (by decide)) rfl ⟨(-1 : Int32), rfl, h638⟩
theorem c25_in (a1 : Int32) (s : St) (Q : Int32 → St → Prop) (h : ((a1 < (0 : Int32)) → Q (0 : Int32) s) ∧ (¬ (a1 < (0 : Int32)) → ((a1 < (gI s 0 31)) → inb 16 a1 ∧ Q (gI s 11 (ix a1)) s) ∧ (¬ (a1 < (gI s 0 31)) → Q (0 : Int32) s))) : calI PP 25 11 [.ref 0, .int a1] s Q := by
  refine cal_of (me := cm25) (ls := [some (.ref 0), some (.int a1)]) rfl (Nat.le_of_ble_eq_true rfl) rfl ?_
  refine wpc_sl (n := 1) (c' := 11) (pc' := 1) (ls' := [some (.ref 0), some (.int a1)]) (st' := [.int a1]) (s' := s) rfl ?_
  refine wpc_if (a := 12) (b := 4) rfl (by decide) rfl rfl (wpc_br (p := a1 < (0 : Int32)) ⟨fun hc640 => ?_, fun hc640 => ?_⟩)
  · have h641 := h.1 hc640
    refine wpc_sl (n := 1) (c' := 11) (pc' := 13) (ls' := [some (.ref 0), some (.int a1)]) (st' := [.int (0 : Int32)]) (s' := s) rfl ?_
    exact wpc_ret rfl rfl (fun q => absurd q (by decide)) rfl ⟨(0 : Int32), rfl, h641⟩
  · have h642 := h.2 hc640
    refine wpc_sl (n := 3) (c' := 11) (pc' := 9) (ls' := [some (.ref 0), some (.int a1)]) (st' := [.int (gI s 0 31), .int a1]) (s' := s) rfl ?_
    refine wpc_icmp (a := 14) (b := 12) rfl (by decide) rfl rfl (wpc_br (p := a1 < (gI s 0 31)) ⟨fun hc643 => ?_, fun hc643 => ?_⟩)
    · have h644 := h642.1 hc643
      refine wpc_sl (n := 3) (c' := 11) (pc' := 19) (ls' := [some (.ref 0), some (.int a1)]) (st' := [.int a1, .ref 11]) (s' := s) rfl ?_
      refine wpc_ldaI (a := 10) (N := 16) (v := (gI s 11 (ix a1))) rfl rfl (by decide) h644.1 rfl ?_
      have h646 := h644.2
      exact wpc_ret rfl rfl (fun q => absurd q (by decide)) rfl ⟨(gI s 11 (ix a1)), rfl, h646⟩
    · have h645 := h642.2 hc643
      refine wpc_sl (n := 1) (c' := 11) (pc' := 13) (ls' := [some (.ref 0), some (.int a1)]) (st' := [.int (0 : Int32)]) (s' := s) rfl ?_
      exact wpc_ret rfl rfl (fun q => absurd q (by decide)) rfl ⟨(0 : Int32), rfl, h645⟩
theorem c14_in (a1 : Int32) (a2 : Int32) (s : St) (Q : Int32 → St → Prop) (h : calI PP 6 11 [.ref 0, .int a1] s (fun v659 s658 => ((v659 = (0 : Int32)) → Q (-1 : Int32) s658) ∧ (¬ (v659 = (0 : Int32)) → calI PP 3 11 [.ref 0, .int a2] s658 (fun v665 s664 => ((v665 = (0 : Int32)) → Q (-1 : Int32) s664) ∧ (¬ (v665 = (0 : Int32)) → calI PP 8 11 [.ref 0, .int a1, .int a2] s664 (fun v671 s670 => inb 64 v671 ∧ (((gI s670 6 (ix v671)) = (0 : Int32)) → Q (-1 : Int32) s670) ∧ (¬ ((gI s670 6 (ix v671)) = (0 : Int32)) → Q v671 s670))))))) : calI PP 14 11 [.ref 0, .int a1, .int a2] s Q := by
  refine cal_of (me := cm14) (ls := [some (.ref 0), some (.int a1), some (.int a2), none]) rfl (Nat.le_of_ble_eq_true rfl) rfl ?_
  refine wpc_sl (n := 2) (c' := 11) (pc' := 2) (ls' := [some (.ref 0), some (.int a1), some (.int a2), none]) (st' := [.int a1, .ref 0]) (s' := s) rfl ?_
  refine wpc_callI (m' := 6) (me' := cm6) (as := [.int a1]) (r := []) rfl rfl rfl rfl rfl ⟨by decide, (by first | decide | exact Nat.le_of_ble_eq_true rfl), (by first | decide | exact Nat.le_of_ble_eq_true rfl), rfl⟩ (calI.mono h fun v659 s658 h660 => ?_)
  refine wpc_if (a := 16) (b := 8) rfl (by decide) rfl rfl (wpc_br (p := v659 = (0 : Int32)) ⟨fun hc661 => ?_, fun hc661 => ?_⟩)
  · have h662 := h660.1 hc661
    refine wpc_sl (n := 1) (c' := 11) (pc' := 17) (ls' := [some (.ref 0), some (.int a1), some (.int a2), none]) (st' := [.int (-1 : Int32)]) (s' := s658) rfl ?_
    exact wpc_ret rfl rfl (fun q => absurd q (by decide)) rfl ⟨(-1 : Int32), rfl, h662⟩
  · have h663 := h660.2 hc661
    refine wpc_sl (n := 2) (c' := 11) (pc' := 10) (ls' := [some (.ref 0), some (.int a1), some (.int a2), none]) (st' := [.int a2, .ref 0]) (s' := s658) rfl ?_
    refine wpc_callI (m' := 3) (me' := cm3) (as := [.int a2]) (r := []) rfl rfl rfl rfl rfl ⟨by decide, (by first | decide | exact Nat.le_of_ble_eq_true rfl), (by first | decide | exact Nat.le_of_ble_eq_true rfl), rfl⟩ (calI.mono h663 fun v665 s664 h666 => ?_)
    refine wpc_if (a := 18) (b := 16) rfl (by decide) rfl rfl (wpc_br (p := v665 = (0 : Int32)) ⟨fun hc667 => ?_, fun hc667 => ?_⟩)
    · have h668 := h666.1 hc667
      refine wpc_sl (n := 1) (c' := 11) (pc' := 17) (ls' := [some (.ref 0), some (.int a1), some (.int a2), none]) (st' := [.int (-1 : Int32)]) (s' := s664) rfl ?_
      exact wpc_ret rfl rfl (fun q => absurd q (by decide)) rfl ⟨(-1 : Int32), rfl, h668⟩
    · have h669 := h666.2 hc667
      refine wpc_sl (n := 3) (c' := 11) (pc' := 21) (ls' := [some (.ref 0), some (.int a1), some (.int a2), none]) (st' := [.int a2, .int a1, .ref 0]) (s' := s664) rfl ?_
      refine wpc_callI (m' := 8) (me' := cm8) (as := [.int a1, .int a2]) (r := []) rfl rfl rfl rfl rfl ⟨by decide, (by first | decide | exact Nat.le_of_ble_eq_true rfl), (by first | decide | exact Nat.le_of_ble_eq_true rfl), rfl⟩ (calI.mono h669 fun v671 s670 h672 => ?_)
      refine wpc_sl (n := 4) (c' := 11) (pc' := 30) (ls' := [some (.ref 0), some (.int a1), some (.int a2), some (.int v671)]) (st' := [.int v671, .ref 6]) (s' := s670) rfl ?_
      refine wpc_ldaZ (a := 5) (N := 64) (v := (gI s670 6 (ix v671))) rfl rfl (by decide) h672.1 rfl ?_
      have h673 := h672.2
      refine wpc_if (a := 36) (b := 34) rfl (by decide) rfl rfl (wpc_br (p := (gI s670 6 (ix v671)) = (0 : Int32)) ⟨fun hc674 => ?_, fun hc674 => ?_⟩)
      · have h675 := h673.1 hc674
        refine wpc_sl (n := 1) (c' := 11) (pc' := 35) (ls' := [some (.ref 0), some (.int a1), some (.int a2), some (.int v671)]) (st' := [.int (-1 : Int32)]) (s' := s670) rfl ?_
        exact wpc_ret rfl rfl (fun q => absurd q (by decide)) rfl ⟨(-1 : Int32), rfl, h675⟩
      · have h676 := h673.2 hc674
        refine wpc_sl (n := 1) (c' := 11) (pc' := 37) (ls' := [some (.ref 0), some (.int a1), some (.int a2), some (.int v671)]) (st' := [.int v671]) (s' := s670) rfl ?_
        exact wpc_ret rfl rfl (fun q => absurd q (by decide)) rfl ⟨v671, rfl, h676⟩
theorem c28_in (a1 : Int32) (a2 : Int32) (s : St) (Q : Int32 → St → Prop) (h : calI PP 14 11 [.ref 0, .int a1, .int a2] s (fun v648 s647 => ((v648 < (0 : Int32)) → Q (-1 : Int32) s647) ∧ (¬ (v648 < (0 : Int32)) → inb 64 v648 ∧ inb 64 v648 ∧ (((gI s647 8 (ix v648)) = (0 : Int32)) → Q ((gI s647 7 (ix v648)) ||| (64 : Int32)) s647) ∧ (¬ ((gI s647 8 (ix v648)) = (0 : Int32)) → Q (gI s647 7 (ix v648)) s647)))) : calI PP 28 11 [.ref 0, .int a1, .int a2] s Q := by
  refine cal_of (me := cm28) (ls := [some (.ref 0), some (.int a1), some (.int a2), none, none]) rfl (Nat.le_of_ble_eq_true rfl) rfl ?_
  refine wpc_sl (n := 3) (c' := 11) (pc' := 3) (ls' := [some (.ref 0), some (.int a1), some (.int a2), none, none]) (st' := [.int a2, .int a1, .ref 0]) (s' := s) rfl ?_
  refine wpc_callI (m' := 14) (me' := cm14) (as := [.int a1, .int a2]) (r := []) rfl rfl rfl rfl rfl ⟨by decide, (by first | decide | exact Nat.le_of_ble_eq_true rfl), (by first | decide | exact Nat.le_of_ble_eq_true rfl), rfl⟩ (calI.mono h fun v648 s647 h649 => ?_)
  refine wpc_sl (n := 2) (c' := 11) (pc' := 8) (ls' := [some (.ref 0), some (.int a1), some (.int a2), some (.int v648), none]) (st' := [.int v648]) (s' := s647) rfl ?_
  refine wpc_if (a := 13) (b := 11) rfl (by decide) rfl rfl (wpc_br (p := v648 < (0 : Int32)) ⟨fun hc650 => ?_, fun hc650 => ?_⟩)
  · have h651 := h649.1 hc650
    refine wpc_sl (n := 1) (c' := 11) (pc' := 12) (ls' := [some (.ref 0), some (.int a1), some (.int a2), some (.int v648), none]) (st' := [.int (-1 : Int32)]) (s' := s647) rfl ?_
    exact wpc_ret rfl rfl (fun q => absurd q (by decide)) rfl ⟨(-1 : Int32), rfl, h651⟩
  · have h652 := h649.2 hc650
    refine wpc_sl (n := 3) (c' := 11) (pc' := 18) (ls' := [some (.ref 0), some (.int a1), some (.int a2), some (.int v648), none]) (st' := [.int v648, .ref 7]) (s' := s647) rfl ?_
    refine wpc_ldaI (a := 6) (N := 64) (v := (gI s647 7 (ix v648))) rfl rfl (by decide) h652.1 rfl ?_
    have h653 := h652.2
    refine wpc_sl (n := 4) (c' := 11) (pc' := 26) (ls' := [some (.ref 0), some (.int a1), some (.int a2), some (.int v648), some (.int (gI s647 7 (ix v648)))]) (st' := [.int v648, .ref 8]) (s' := s647) rfl ?_
    refine wpc_ldaZ (a := 7) (N := 64) (v := (gI s647 8 (ix v648))) rfl rfl (by decide) h653.1 rfl ?_
    have h654 := h653.2
    refine wpc_if (a := 37) (b := 30) rfl (by decide) rfl rfl (wpc_br (p := (gI s647 8 (ix v648)) = (0 : Int32)) ⟨fun hc655 => ?_, fun hc655 => ?_⟩)
    · have h656 := h654.1 hc655
      refine wpc_sl (n := 5) (c' := 11) (pc' := 39) (ls' := [some (.ref 0), some (.int a1), some (.int a2), some (.int v648), some (.int ((gI s647 7 (ix v648)) ||| (64 : Int32)))]) (st' := [.int ((gI s647 7 (ix v648)) ||| (64 : Int32))]) (s' := s647) rfl ?_
      exact wpc_ret rfl rfl (fun q => absurd q (by decide)) rfl ⟨((gI s647 7 (ix v648)) ||| (64 : Int32)), rfl, h656⟩
    · have h657 := h654.2 hc655
      refine wpc_sl (n := 1) (c' := 11) (pc' := 39) (ls' := [some (.ref 0), some (.int a1), some (.int a2), some (.int v648), some (.int (gI s647 7 (ix v648)))]) (st' := [.int (gI s647 7 (ix v648))]) (s' := s647) rfl ?_
      exact wpc_ret rfl rfl (fun q => absurd q (by decide)) rfl ⟨(gI s647 7 (ix v648)), rfl, h657⟩
theorem c29_in (a1 : Int32) (a2 : Int32) (s : St) (Q : Int32 → St → Prop) (h : calI PP 14 11 [.ref 0, .int a1, .int a2] s (fun v678 s677 => ((v678 < (0 : Int32)) → Q (-1 : Int32) s677) ∧ (¬ (v678 < (0 : Int32)) → calI PP 9 11 [.ref 0, .int v678, .int a2] s677 (fun v684 s683 => Q v684 s683)))) : calI PP 29 11 [.ref 0, .int a1, .int a2] s Q := by
  refine cal_of (me := cm29) (ls := [some (.ref 0), some (.int a1), some (.int a2), none]) rfl (Nat.le_of_ble_eq_true rfl) rfl ?_
  refine wpc_sl (n := 3) (c' := 11) (pc' := 3) (ls' := [some (.ref 0), some (.int a1), some (.int a2), none]) (st' := [.int a2, .int a1, .ref 0]) (s' := s) rfl ?_
  refine wpc_callI (m' := 14) (me' := cm14) (as := [.int a1, .int a2]) (r := []) rfl rfl rfl rfl rfl ⟨by decide, (by first | decide | exact Nat.le_of_ble_eq_true rfl), (by first | decide | exact Nat.le_of_ble_eq_true rfl), rfl⟩ (calI.mono h fun v678 s677 h679 => ?_)
  refine wpc_sl (n := 2) (c' := 11) (pc' := 8) (ls' := [some (.ref 0), some (.int a1), some (.int a2), some (.int v678)]) (st' := [.int v678]) (s' := s677) rfl ?_
  refine wpc_if (a := 13) (b := 11) rfl (by decide) rfl rfl (wpc_br (p := v678 < (0 : Int32)) ⟨fun hc680 => ?_, fun hc680 => ?_⟩)
  · have h681 := h679.1 hc680
    refine wpc_sl (n := 1) (c' := 11) (pc' := 12) (ls' := [some (.ref 0), some (.int a1), some (.int a2), some (.int v678)]) (st' := [.int (-1 : Int32)]) (s' := s677) rfl ?_
    exact wpc_ret rfl rfl (fun q => absurd q (by decide)) rfl ⟨(-1 : Int32), rfl, h681⟩
  · have h682 := h679.2 hc680
    refine wpc_sl (n := 3) (c' := 11) (pc' := 16) (ls' := [some (.ref 0), some (.int a1), some (.int a2), some (.int v678)]) (st' := [.int a2, .int v678, .ref 0]) (s' := s677) rfl ?_
    refine wpc_callI (m' := 9) (me' := cm9) (as := [.int v678, .int a2]) (r := []) rfl rfl rfl rfl rfl ⟨by decide, (by first | decide | exact Nat.le_of_ble_eq_true rfl), (by first | decide | exact Nat.le_of_ble_eq_true rfl), rfl⟩ (calI.mono h682 fun v684 s683 h685 => ?_)
    exact wpc_ret rfl rfl (fun q => absurd q (by decide)) rfl ⟨v684, rfl, h685⟩
theorem l4r1r2W2_in (N : Nat) (sg : Nat → Int32)  (s : St) (t : St) (Q : Int32 → Wd → Prop) (h : wplI PP QQ (some (N, sg)) 4 lm4 2 [some (.ref 1), some (.ref 2), some (.int (-1 : Int32))] [] (W2 s t) Q) : lalI PP QQ (some (N, sg)) 4 [.ref 1, .ref 2] (W2 s t) Q := by
  refine lal_of (me := lm4) (ls := [some (.ref 1), some (.ref 2), none]) rfl (Nat.le_of_ble_eq_true rfl) rfl ?_
  refine wpl_sl (n := 2) (pc' := 2) (ls' := [some (.ref 1), some (.ref 2), some (.int (-1 : Int32))]) (st' := []) rfl ?_
  exact h
theorem l4r1r2W2_2 (N : Nat) (sg : Nat → Int32) (x2 : Int32) (s : St) (t : St) (Q : Int32 → Wd → Prop) (h : ((x2 < (17 : Int32)) → calI PP 26 11 [.ref 0, .int x2] s (fun v520 s519 => calI PP 26 11 [.ref 0, .int x2] t (fun v523 s522 => ((v520 = v523) → calI PP 27 11 [.ref 0, .int x2] s519 (fun v529 s528 => calI PP 27 11 [.ref 0, .int x2] s522 (fun v532 s531 => ((v529 = v532) → calI PP 30 11 [.ref 0, .int x2] s528 (fun v538 s537 => calI PP 30 11 [.ref 0, .int x2] s531 (fun v541 s540 => ((v538 = v541) → calI PP 24 11 [.ref 0, .int x2] s537 (fun v547 s546 => calI PP 24 11 [.ref 0, .int x2] s540 (fun v550 s549 => ((v547 = v550) → calI PP 25 11 [.ref 0, .int x2] s546 (fun v556 s555 => calI PP 25 11 [.ref 0, .int x2] s549 (fun v559 s558 => ((v556 = v559) → wplI PP QQ (some (N, sg)) 4 lm4 2 [some (.ref 1), some (.ref 2), some (.int (x2 + (1 : Int32)))] [] (W2 s555 s558) Q) ∧ (¬ (v556 = v559) → Q (0 : Int32) (W2 s555 s558))))) ∧ (¬ (v547 = v550) → Q (0 : Int32) (W2 s546 s549))))) ∧ (¬ (v538 = v541) → Q (0 : Int32) (W2 s537 s540))))) ∧ (¬ (v529 = v532) → Q (0 : Int32) (W2 s528 s531))))) ∧ (¬ (v520 = v523) → Q (0 : Int32) (W2 s519 s522))))) ∧ (¬ (x2 < (17 : Int32)) → wplI PP QQ (some (N, sg)) 4 lm4 85 [some (.ref 1), some (.ref 2), some (.int (0 : Int32))] [] (W2 s t) Q)) : wplI PP QQ (some (N, sg)) 4 lm4 2 [some (.ref 1), some (.ref 2), some (.int x2)] [] (W2 s t) Q := by
  refine wpl_sl (n := 2) (pc' := 5) (ls' := [some (.ref 1), some (.ref 2), some (.int x2)]) (st' := [.int (17 : Int32), .int x2]) rfl ?_
  refine wpl_icmp (a := 83) (b := 8) rfl (by decide) rfl rfl (wpl_br (p := x2 < (17 : Int32)) ⟨fun hc516 => ?_, fun hc516 => ?_⟩)
  · have h517 := h.1 hc516
    refine wpl_sl (n := 2) (pc' := 10) (ls' := [some (.ref 1), some (.ref 2), some (.int x2)]) (st' := [.int x2, .ref 1]) rfl ?_
    refine wpl_v2a (m' := 26) (me' := cm26) (as := [.int x2]) (r := []) rfl rfl rfl rfl rfl ⟨by decide, (by first | decide | exact Nat.le_of_ble_eq_true rfl), (by first | decide | exact Nat.le_of_ble_eq_true rfl), rfl⟩ (cal_I (calI.mono h517 fun v520 s519 h521 => ?_))
    refine wpl_sl (n := 2) (pc' := 15) (ls' := [some (.ref 1), some (.ref 2), some (.int x2)]) (st' := [.int x2, .ref 2, .int v520]) rfl ?_
    refine wpl_v2b (m' := 26) (me' := cm26) (as := [.int x2]) (r := [.int v520]) rfl rfl rfl rfl rfl ⟨by decide, (by first | decide | exact Nat.le_of_ble_eq_true rfl), (by first | decide | exact Nat.le_of_ble_eq_true rfl), rfl⟩ (cal_I (calI.mono h521 fun v523 s522 h524 => ?_))
    refine wpl_icmp (a := 47) (b := 21) rfl (by decide) rfl rfl (wpl_br (p := v520 = v523) ⟨fun hc525 => ?_, fun hc525 => ?_⟩)
    · have h526 := h524.1 hc525
      refine wpl_sl (n := 2) (pc' := 23) (ls' := [some (.ref 1), some (.ref 2), some (.int x2)]) (st' := [.int x2, .ref 1]) rfl ?_
      refine wpl_v2a (m' := 27) (me' := cm27) (as := [.int x2]) (r := []) rfl rfl rfl rfl rfl ⟨by decide, (by first | decide | exact Nat.le_of_ble_eq_true rfl), (by first | decide | exact Nat.le_of_ble_eq_true rfl), rfl⟩ (cal_I (calI.mono h526 fun v529 s528 h530 => ?_))
      refine wpl_sl (n := 2) (pc' := 28) (ls' := [some (.ref 1), some (.ref 2), some (.int x2)]) (st' := [.int x2, .ref 2, .int v529]) rfl ?_
      refine wpl_v2b (m' := 27) (me' := cm27) (as := [.int x2]) (r := [.int v529]) rfl rfl rfl rfl rfl ⟨by decide, (by first | decide | exact Nat.le_of_ble_eq_true rfl), (by first | decide | exact Nat.le_of_ble_eq_true rfl), rfl⟩ (cal_I (calI.mono h530 fun v532 s531 h533 => ?_))
      refine wpl_icmp (a := 47) (b := 34) rfl (by decide) rfl rfl (wpl_br (p := v529 = v532) ⟨fun hc534 => ?_, fun hc534 => ?_⟩)
      · have h535 := h533.1 hc534
        refine wpl_sl (n := 2) (pc' := 36) (ls' := [some (.ref 1), some (.ref 2), some (.int x2)]) (st' := [.int x2, .ref 1]) rfl ?_
        refine wpl_v2a (m' := 30) (me' := cm30) (as := [.int x2]) (r := []) rfl rfl rfl rfl rfl ⟨by decide, (by first | decide | exact Nat.le_of_ble_eq_true rfl), (by first | decide | exact Nat.le_of_ble_eq_true rfl), rfl⟩ (cal_I (calI.mono h535 fun v538 s537 h539 => ?_))
        refine wpl_sl (n := 2) (pc' := 41) (ls' := [some (.ref 1), some (.ref 2), some (.int x2)]) (st' := [.int x2, .ref 2, .int v538]) rfl ?_
        refine wpl_v2b (m' := 30) (me' := cm30) (as := [.int x2]) (r := [.int v538]) rfl rfl rfl rfl rfl ⟨by decide, (by first | decide | exact Nat.le_of_ble_eq_true rfl), (by first | decide | exact Nat.le_of_ble_eq_true rfl), rfl⟩ (cal_I (calI.mono h539 fun v541 s540 h542 => ?_))
        refine wpl_icmp (a := 49) (b := 47) rfl (by decide) rfl rfl (wpl_br (p := v538 = v541) ⟨fun hc543 => ?_, fun hc543 => ?_⟩)
        · have h544 := h542.1 hc543
          refine wpl_sl (n := 2) (pc' := 51) (ls' := [some (.ref 1), some (.ref 2), some (.int x2)]) (st' := [.int x2, .ref 1]) rfl ?_
          refine wpl_v2a (m' := 24) (me' := cm24) (as := [.int x2]) (r := []) rfl rfl rfl rfl rfl ⟨by decide, (by first | decide | exact Nat.le_of_ble_eq_true rfl), (by first | decide | exact Nat.le_of_ble_eq_true rfl), rfl⟩ (cal_I (calI.mono h544 fun v547 s546 h548 => ?_))
          refine wpl_sl (n := 2) (pc' := 56) (ls' := [some (.ref 1), some (.ref 2), some (.int x2)]) (st' := [.int x2, .ref 2, .int v547]) rfl ?_
          refine wpl_v2b (m' := 24) (me' := cm24) (as := [.int x2]) (r := [.int v547]) rfl rfl rfl rfl rfl ⟨by decide, (by first | decide | exact Nat.le_of_ble_eq_true rfl), (by first | decide | exact Nat.le_of_ble_eq_true rfl), rfl⟩ (cal_I (calI.mono h548 fun v550 s549 h551 => ?_))
          refine wpl_icmp (a := 75) (b := 62) rfl (by decide) rfl rfl (wpl_br (p := v547 = v550) ⟨fun hc552 => ?_, fun hc552 => ?_⟩)
          · have h553 := h551.1 hc552
            refine wpl_sl (n := 2) (pc' := 64) (ls' := [some (.ref 1), some (.ref 2), some (.int x2)]) (st' := [.int x2, .ref 1]) rfl ?_
            refine wpl_v2a (m' := 25) (me' := cm25) (as := [.int x2]) (r := []) rfl rfl rfl rfl rfl ⟨by decide, (by first | decide | exact Nat.le_of_ble_eq_true rfl), (by first | decide | exact Nat.le_of_ble_eq_true rfl), rfl⟩ (cal_I (calI.mono h553 fun v556 s555 h557 => ?_))
            refine wpl_sl (n := 2) (pc' := 69) (ls' := [some (.ref 1), some (.ref 2), some (.int x2)]) (st' := [.int x2, .ref 2, .int v556]) rfl ?_
            refine wpl_v2b (m' := 25) (me' := cm25) (as := [.int x2]) (r := [.int v556]) rfl rfl rfl rfl rfl ⟨by decide, (by first | decide | exact Nat.le_of_ble_eq_true rfl), (by first | decide | exact Nat.le_of_ble_eq_true rfl), rfl⟩ (cal_I (calI.mono h557 fun v559 s558 h560 => ?_))
            refine wpl_icmp (a := 77) (b := 75) rfl (by decide) rfl rfl (wpl_br (p := v556 = v559) ⟨fun hc561 => ?_, fun hc561 => ?_⟩)
            · have h562 := h560.1 hc561
              refine wpl_sl (n := 2) (pc' := 2) (ls' := [some (.ref 1), some (.ref 2), some (.int (x2 + (1 : Int32)))]) (st' := []) rfl ?_
              exact h562
            · have h563 := h560.2 hc561
              refine wpl_sl (n := 1) (pc' := 76) (ls' := [some (.ref 1), some (.ref 2), some (.int x2)]) (st' := [.int (0 : Int32)]) rfl ?_
              exact wpl_ret rfl rfl rfl ⟨(0 : Int32), rfl, h563⟩
          · have h554 := h551.2 hc552
            refine wpl_sl (n := 1) (pc' := 76) (ls' := [some (.ref 1), some (.ref 2), some (.int x2)]) (st' := [.int (0 : Int32)]) rfl ?_
            exact wpl_ret rfl rfl rfl ⟨(0 : Int32), rfl, h554⟩
        · have h545 := h542.2 hc543
          refine wpl_sl (n := 1) (pc' := 48) (ls' := [some (.ref 1), some (.ref 2), some (.int x2)]) (st' := [.int (0 : Int32)]) rfl ?_
          exact wpl_ret rfl rfl rfl ⟨(0 : Int32), rfl, h545⟩
      · have h536 := h533.2 hc534
        refine wpl_sl (n := 1) (pc' := 48) (ls' := [some (.ref 1), some (.ref 2), some (.int x2)]) (st' := [.int (0 : Int32)]) rfl ?_
        exact wpl_ret rfl rfl rfl ⟨(0 : Int32), rfl, h536⟩
    · have h527 := h524.2 hc525
      refine wpl_sl (n := 1) (pc' := 48) (ls' := [some (.ref 1), some (.ref 2), some (.int x2)]) (st' := [.int (0 : Int32)]) rfl ?_
      exact wpl_ret rfl rfl rfl ⟨(0 : Int32), rfl, h527⟩
  · have h518 := h.2 hc516
    refine wpl_sl (n := 2) (pc' := 85) (ls' := [some (.ref 1), some (.ref 2), some (.int (0 : Int32))]) (st' := []) rfl ?_
    exact h518
theorem l4r1r2W2_85 (N : Nat) (sg : Nat → Int32) (x2 : Int32) (s : St) (t : St) (Q : Int32 → Wd → Prop) (h : ((x2 < (16 : Int32)) → calI PP 28 11 [.ref 0, .int (x2 >>> ((2 : Int32) &&& 31)), .int (x2 &&& (3 : Int32))] s (fun v568 s567 => calI PP 28 11 [.ref 0, .int (x2 >>> ((2 : Int32) &&& 31)), .int (x2 &&& (3 : Int32))] t (fun v571 s570 => ((v568 = v571) → calI PP 29 11 [.ref 0, .int (x2 >>> ((2 : Int32) &&& 31)), .int (x2 &&& (3 : Int32))] s567 (fun v577 s576 => calI PP 29 11 [.ref 0, .int (x2 >>> ((2 : Int32) &&& 31)), .int (x2 &&& (3 : Int32))] s570 (fun v580 s579 => ((v577 = v580) → wplI PP QQ (some (N, sg)) 4 lm4 85 [some (.ref 1), some (.ref 2), some (.int (x2 + (1 : Int32)))] [] (W2 s576 s579) Q) ∧ (¬ (v577 = v580) → Q (0 : Int32) (W2 s576 s579))))) ∧ (¬ (v568 = v571) → Q (0 : Int32) (W2 s567 s570))))) ∧ (¬ (x2 < (16 : Int32)) → Q (1 : Int32) (W2 s t))) : wplI PP QQ (some (N, sg)) 4 lm4 85 [some (.ref 1), some (.ref 2), some (.int x2)] [] (W2 s t) Q := by
  refine wpl_sl (n := 2) (pc' := 88) (ls' := [some (.ref 1), some (.ref 2), some (.int x2)]) (st' := [.int (16 : Int32), .int x2]) rfl ?_
  refine wpl_icmp (a := 145) (b := 91) rfl (by decide) rfl rfl (wpl_br (p := x2 < (16 : Int32)) ⟨fun hc564 => ?_, fun hc564 => ?_⟩)
  · have h565 := h.1 hc564
    refine wpl_sl (n := 7) (pc' := 98) (ls' := [some (.ref 1), some (.ref 2), some (.int x2)]) (st' := [.int (x2 &&& (3 : Int32)), .int (x2 >>> ((2 : Int32) &&& 31)), .ref 1]) rfl ?_
    refine wpl_v2a (m' := 28) (me' := cm28) (as := [.int (x2 >>> ((2 : Int32) &&& 31)), .int (x2 &&& (3 : Int32))]) (r := []) rfl rfl rfl rfl rfl ⟨by decide, (by first | decide | exact Nat.le_of_ble_eq_true rfl), (by first | decide | exact Nat.le_of_ble_eq_true rfl), rfl⟩ (cal_I (calI.mono h565 fun v568 s567 h569 => ?_))
    refine wpl_sl (n := 7) (pc' := 108) (ls' := [some (.ref 1), some (.ref 2), some (.int x2)]) (st' := [.int (x2 &&& (3 : Int32)), .int (x2 >>> ((2 : Int32) &&& 31)), .ref 2, .int v568]) rfl ?_
    refine wpl_v2b (m' := 28) (me' := cm28) (as := [.int (x2 >>> ((2 : Int32) &&& 31)), .int (x2 &&& (3 : Int32))]) (r := [.int v568]) rfl rfl rfl rfl rfl ⟨by decide, (by first | decide | exact Nat.le_of_ble_eq_true rfl), (by first | decide | exact Nat.le_of_ble_eq_true rfl), rfl⟩ (cal_I (calI.mono h569 fun v571 s570 h572 => ?_))
    refine wpl_icmp (a := 137) (b := 114) rfl (by decide) rfl rfl (wpl_br (p := v568 = v571) ⟨fun hc573 => ?_, fun hc573 => ?_⟩)
    · have h574 := h572.1 hc573
      refine wpl_sl (n := 7) (pc' := 121) (ls' := [some (.ref 1), some (.ref 2), some (.int x2)]) (st' := [.int (x2 &&& (3 : Int32)), .int (x2 >>> ((2 : Int32) &&& 31)), .ref 1]) rfl ?_
      refine wpl_v2a (m' := 29) (me' := cm29) (as := [.int (x2 >>> ((2 : Int32) &&& 31)), .int (x2 &&& (3 : Int32))]) (r := []) rfl rfl rfl rfl rfl ⟨by decide, (by first | decide | exact Nat.le_of_ble_eq_true rfl), (by first | decide | exact Nat.le_of_ble_eq_true rfl), rfl⟩ (cal_I (calI.mono h574 fun v577 s576 h578 => ?_))
      refine wpl_sl (n := 7) (pc' := 131) (ls' := [some (.ref 1), some (.ref 2), some (.int x2)]) (st' := [.int (x2 &&& (3 : Int32)), .int (x2 >>> ((2 : Int32) &&& 31)), .ref 2, .int v577]) rfl ?_
      refine wpl_v2b (m' := 29) (me' := cm29) (as := [.int (x2 >>> ((2 : Int32) &&& 31)), .int (x2 &&& (3 : Int32))]) (r := [.int v577]) rfl rfl rfl rfl rfl ⟨by decide, (by first | decide | exact Nat.le_of_ble_eq_true rfl), (by first | decide | exact Nat.le_of_ble_eq_true rfl), rfl⟩ (cal_I (calI.mono h578 fun v580 s579 h581 => ?_))
      refine wpl_icmp (a := 139) (b := 137) rfl (by decide) rfl rfl (wpl_br (p := v577 = v580) ⟨fun hc582 => ?_, fun hc582 => ?_⟩)
      · have h583 := h581.1 hc582
        refine wpl_sl (n := 2) (pc' := 85) (ls' := [some (.ref 1), some (.ref 2), some (.int (x2 + (1 : Int32)))]) (st' := []) rfl ?_
        exact h583
      · have h584 := h581.2 hc582
        refine wpl_sl (n := 1) (pc' := 138) (ls' := [some (.ref 1), some (.ref 2), some (.int x2)]) (st' := [.int (0 : Int32)]) rfl ?_
        exact wpl_ret rfl rfl rfl ⟨(0 : Int32), rfl, h584⟩
    · have h575 := h572.2 hc573
      refine wpl_sl (n := 1) (pc' := 138) (ls' := [some (.ref 1), some (.ref 2), some (.int x2)]) (st' := [.int (0 : Int32)]) rfl ?_
      exact wpl_ret rfl rfl rfl ⟨(0 : Int32), rfl, h575⟩
  · have h566 := h.2 hc564
    refine wpl_sl (n := 1) (pc' := 146) (ls' := [some (.ref 1), some (.ref 2), some (.int x2)]) (st' := [.int (1 : Int32)]) rfl ?_
    exact wpl_ret rfl rfl rfl ⟨(1 : Int32), rfl, h566⟩
theorem l0_in (N : Nat) (sg : Nat → Int32)   (Q : Int32 → Wd → Prop) (h : calV PP 0 0 [.ref 0, .int (2 : Int32), .int (3 : Int32), .int (2 : Int32)] s0 (fun s1 => calV PP 0 0 [.ref 0, .int (2 : Int32), .int (3 : Int32), .int (2 : Int32)] s0 (fun s3 => wplI PP QQ (some (N, sg)) 0 lm0 24 [some (.ref 0), some (.ref 1), some (.ref 2), some (.int (0 : Int32)), none, none, none, none, none, none, none, none, none, none] [] (W2 s1 s3) Q))) : lalI PP QQ (some (N, sg)) 0 [.ref 0] W0 Q := by
  refine lal_of (me := lm0) (ls := [some (.ref 0), none, none, none, none, none, none, none, none, none, none, none, none, none]) rfl (Nat.le_of_ble_eq_true rfl) rfl ?_
  refine wpl_new0 rfl rfl (by decide) (by decide) ?_
  refine wpl_sl (n := 4) (pc' := 7) (ls' := [some (.ref 0), none, none, none, none, none, none, none, none, none, none, none, none, none]) (st' := [.int (2 : Int32), .int (3 : Int32), .int (2 : Int32), .ref 1, .ref 1]) rfl ?_
  refine wpl_ctor0 (me' := cm0) (as := [.int (2 : Int32), .int (3 : Int32), .int (2 : Int32)]) (r := [.ref 1]) rfl rfl rfl rfl rfl ⟨by decide, by decide, rfl, by decide, by decide⟩ (calV.mono h fun s1 h2 => ?_)
  refine wpl_sl (n := 1) (pc' := 11) (ls' := [some (.ref 0), some (.ref 1), none, none, none, none, none, none, none, none, none, none, none, none]) (st' := []) rfl ?_
  refine wpl_new1 rfl rfl (by decide) (by decide) ?_
  refine wpl_sl (n := 4) (pc' := 18) (ls' := [some (.ref 0), some (.ref 1), none, none, none, none, none, none, none, none, none, none, none, none]) (st' := [.int (2 : Int32), .int (3 : Int32), .int (2 : Int32), .ref 2, .ref 2]) rfl ?_
  refine wpl_ctor1 (me' := cm0) (as := [.int (2 : Int32), .int (3 : Int32), .int (2 : Int32)]) (r := [.ref 2]) rfl rfl rfl rfl rfl ⟨by decide, by decide, rfl, by decide, by decide⟩ (calV.mono h2 fun s3 h4 => ?_)
  refine wpl_sl (n := 3) (pc' := 24) (ls' := [some (.ref 0), some (.ref 1), some (.ref 2), some (.int (0 : Int32)), none, none, none, none, none, none, none, none, none, none]) (st' := []) rfl ?_
  exact h4
theorem l0_24 (N : Nat) (sg : Nat → Int32) (x3 : Int32)  (Q : Int32 → Wd → Prop) (h : (((x3 + (3 : Int32)) < (Int32.ofNat N)) → inb N x3 ∧ inb N (x3 + (1 : Int32)) ∧ inb N (x3 + (2 : Int32)) ∧ inb N (x3 + (3 : Int32)) ∧ ∀ m12, m12 = (if ((sg (ix (x3 + (3 : Int32)))) &&& (255 : Int32)) < (248 : Int32) then (0 : Int32) else (64 : Int32)) → (inb N (x3 + (3 : Int32)) ∧ lalI PP QQ (some (N, sg)) 3 [.ref 2, .int ((sg (ix x3)) &&& (7 : Int32)), .int (((sg (ix (x3 + (1 : Int32)))) &&& (255 : Int32)) % (3 : Int32)), .int (((sg (ix (x3 + (2 : Int32)))) &&& (255 : Int32)) % (5 : Int32)), .int (((((sg (ix (x3 + (3 : Int32)))) &&& (255 : Int32)) &&& (3 : Int32)) ||| ((((sg (ix (x3 + (3 : Int32)))) &&& (255 : Int32)) &&& (12 : Int32)) <<< ((2 : Int32) &&& 31))) ||| m12), .int (((sg (ix (x3 + (2 : Int32)))) &&& (255 : Int32)) &&& (7 : Int32)), .int (sg (ix (x3 + (3 : Int32))))] (W2 s t) (fun v17 w16 => ∃ s19, ∃ s20, w16 = W2 s19 s20 ∧ (((v17 < (0 : Int32)) → wplI PP QQ (some (N, sg)) 0 lm0 177 [some (.ref 0), some (.ref 1), some (.ref 2), some (.int x3), none, none, none, none, none, none, none, none, none, none] [] (W2 s19 s20) Q) ∧ (¬ (v17 < (0 : Int32)) → inb N (x3 + (3 : Int32)) ∧ lalI PP QQ (some (N, sg)) 3 [.ref 1, .int ((sg (ix x3)) &&& (7 : Int32)), .int (((sg (ix (x3 + (1 : Int32)))) &&& (255 : Int32)) % (3 : Int32)), .int (((sg (ix (x3 + (2 : Int32)))) &&& (255 : Int32)) % (5 : Int32)), .int (((((sg (ix (x3 + (3 : Int32)))) &&& (255 : Int32)) &&& (3 : Int32)) ||| ((((sg (ix (x3 + (3 : Int32)))) &&& (255 : Int32)) &&& (12 : Int32)) <<< ((2 : Int32) &&& 31))) ||| m12), .int (((sg (ix (x3 + (2 : Int32)))) &&& (255 : Int32)) &&& (7 : Int32)), .int (sg (ix (x3 + (3 : Int32))))] (W2 s19 s20) (fun v26 w25 => ∃ s28, ∃ s29, w25 = W2 s28 s29 ∧ (((v26 = v17) → wplI PP QQ (some (N, sg)) 0 lm0 177 [some (.ref 0), some (.ref 1), some (.ref 2), some (.int x3), none, none, none, none, none, none, none, none, none, none] [] (W2 s28 s29) Q) ∧ (¬ (v26 = v17) → Q (0 : Int32) (W2 s28 s29))))))))) ∧ (¬ ((x3 + (3 : Int32)) < (Int32.ofNat N)) → Q (1 : Int32) (W2 s t))) : wplI PP QQ (some (N, sg)) 0 lm0 24 [some (.ref 0), some (.ref 1), some (.ref 2), some (.int x3), none, none, none, none, none, none, none, none, none, none] [] (W2 s t) Q := by
  refine wpl_sl (n := 4) (pc' := 28) (ls' := [some (.ref 0), some (.ref 1), some (.ref 2), some (.int x3), none, none, none, none, none, none, none, none, none, none]) (st' := [.ref 0, .int (x3 + (3 : Int32))]) rfl ?_
  refine wpl_len rfl ?_
  refine wpl_icmp (a := 193) (b := 32) rfl (by decide) rfl rfl (wpl_br (p := (x3 + (3 : Int32)) < (Int32.ofNat N)) ⟨fun hc5 => ?_, fun hc5 => ?_⟩)
  · have h6 := h.1 hc5
    refine wpl_sl (n := 2) (pc' := 34) (ls' := [some (.ref 0), some (.ref 1), some (.ref 2), some (.int x3), none, none, none, none, none, none, none, none, none, none]) (st' := [.int x3, .ref 0]) rfl ?_
    refine wpl_lda rfl h6.1 ?_
    have h8 := h6.2
    refine wpl_sl (n := 7) (pc' := 44) (ls' := [some (.ref 0), some (.ref 1), some (.ref 2), some (.int x3), some (.int ((sg (ix x3)) &&& (7 : Int32))), none, none, none, none, none, none, none, none, none]) (st' := [.int (x3 + (1 : Int32)), .ref 0]) rfl ?_
    refine wpl_lda rfl h8.1 ?_
    have h9 := h8.2
    refine wpl_sl (n := 7) (pc' := 55) (ls' := [some (.ref 0), some (.ref 1), some (.ref 2), some (.int x3), some (.int ((sg (ix x3)) &&& (7 : Int32))), some (.int ((sg (ix (x3 + (1 : Int32)))) &&& (255 : Int32))), none, none, none, none, none, none, none, none]) (st' := [.int (x3 + (2 : Int32)), .ref 0]) rfl ?_
    refine wpl_lda rfl h9.1 ?_
    have h10 := h9.2
    refine wpl_sl (n := 7) (pc' := 66) (ls' := [some (.ref 0), some (.ref 1), some (.ref 2), some (.int x3), some (.int ((sg (ix x3)) &&& (7 : Int32))), some (.int ((sg (ix (x3 + (1 : Int32)))) &&& (255 : Int32))), some (.int ((sg (ix (x3 + (2 : Int32)))) &&& (255 : Int32))), none, none, none, none, none, none, none]) (st' := [.int (x3 + (3 : Int32)), .ref 0]) rfl ?_
    refine wpl_lda rfl h10.1 ?_
    have h11 := h10.2
    refine wpl_sl (n := 5) (pc' := 76) (ls' := [some (.ref 0), some (.ref 1), some (.ref 2), some (.int x3), some (.int ((sg (ix x3)) &&& (7 : Int32))), some (.int ((sg (ix (x3 + (1 : Int32)))) &&& (255 : Int32))), some (.int ((sg (ix (x3 + (2 : Int32)))) &&& (255 : Int32))), some (.int ((sg (ix (x3 + (3 : Int32)))) &&& (255 : Int32))), none, none, none, none, none, none]) (st' := [.int (3 : Int32), .int ((sg (ix (x3 + (1 : Int32)))) &&& (255 : Int32))]) rfl ?_
    refine wpl_sl (n := 5) (pc' := 83) (ls' := [some (.ref 0), some (.ref 1), some (.ref 2), some (.int x3), some (.int ((sg (ix x3)) &&& (7 : Int32))), some (.int ((sg (ix (x3 + (1 : Int32)))) &&& (255 : Int32))), some (.int ((sg (ix (x3 + (2 : Int32)))) &&& (255 : Int32))), some (.int ((sg (ix (x3 + (3 : Int32)))) &&& (255 : Int32))), some (.int (((sg (ix (x3 + (1 : Int32)))) &&& (255 : Int32)) % (3 : Int32))), none, none, none, none, none]) (st' := [.int (((sg (ix (x3 + (2 : Int32)))) &&& (255 : Int32)) % (5 : Int32))]) rfl ?_
    refine wpl_sl (n := 5) (pc' := 92) (ls' := [some (.ref 0), some (.ref 1), some (.ref 2), some (.int x3), some (.int ((sg (ix x3)) &&& (7 : Int32))), some (.int ((sg (ix (x3 + (1 : Int32)))) &&& (255 : Int32))), some (.int ((sg (ix (x3 + (2 : Int32)))) &&& (255 : Int32))), some (.int ((sg (ix (x3 + (3 : Int32)))) &&& (255 : Int32))), some (.int (((sg (ix (x3 + (1 : Int32)))) &&& (255 : Int32)) % (3 : Int32))), some (.int (((sg (ix (x3 + (2 : Int32)))) &&& (255 : Int32)) % (5 : Int32))), some (.int (((sg (ix (x3 + (2 : Int32)))) &&& (255 : Int32)) &&& (7 : Int32))), none, none, none]) (st' := []) rfl ?_
    refine wpl_sl (n := 5) (pc' := 100) (ls' := [some (.ref 0), some (.ref 1), some (.ref 2), some (.int x3), some (.int ((sg (ix x3)) &&& (7 : Int32))), some (.int ((sg (ix (x3 + (1 : Int32)))) &&& (255 : Int32))), some (.int ((sg (ix (x3 + (2 : Int32)))) &&& (255 : Int32))), some (.int ((sg (ix (x3 + (3 : Int32)))) &&& (255 : Int32))), some (.int (((sg (ix (x3 + (1 : Int32)))) &&& (255 : Int32)) % (3 : Int32))), some (.int (((sg (ix (x3 + (2 : Int32)))) &&& (255 : Int32)) % (5 : Int32))), some (.int (((sg (ix (x3 + (2 : Int32)))) &&& (255 : Int32)) &&& (7 : Int32))), none, none, none]) (st' := [.int (12 : Int32), .int ((sg (ix (x3 + (3 : Int32)))) &&& (255 : Int32)), .int (((sg (ix (x3 + (3 : Int32)))) &&& (255 : Int32)) &&& (3 : Int32))]) rfl ?_
    refine wpl_sl (n := 5) (pc' := 106) (ls' := [some (.ref 0), some (.ref 1), some (.ref 2), some (.int x3), some (.int ((sg (ix x3)) &&& (7 : Int32))), some (.int ((sg (ix (x3 + (1 : Int32)))) &&& (255 : Int32))), some (.int ((sg (ix (x3 + (2 : Int32)))) &&& (255 : Int32))), some (.int ((sg (ix (x3 + (3 : Int32)))) &&& (255 : Int32))), some (.int (((sg (ix (x3 + (1 : Int32)))) &&& (255 : Int32)) % (3 : Int32))), some (.int (((sg (ix (x3 + (2 : Int32)))) &&& (255 : Int32)) % (5 : Int32))), some (.int (((sg (ix (x3 + (2 : Int32)))) &&& (255 : Int32)) &&& (7 : Int32))), none, none, none]) (st' := [.int ((sg (ix (x3 + (3 : Int32)))) &&& (255 : Int32)), .int ((((sg (ix (x3 + (3 : Int32)))) &&& (255 : Int32)) &&& (3 : Int32)) ||| ((((sg (ix (x3 + (3 : Int32)))) &&& (255 : Int32)) &&& (12 : Int32)) <<< ((2 : Int32) &&& 31)))]) rfl ?_
    refine wpl_sl (n := 1) (pc' := 109) (ls' := [some (.ref 0), some (.ref 1), some (.ref 2), some (.int x3), some (.int ((sg (ix x3)) &&& (7 : Int32))), some (.int ((sg (ix (x3 + (1 : Int32)))) &&& (255 : Int32))), some (.int ((sg (ix (x3 + (2 : Int32)))) &&& (255 : Int32))), some (.int ((sg (ix (x3 + (3 : Int32)))) &&& (255 : Int32))), some (.int (((sg (ix (x3 + (1 : Int32)))) &&& (255 : Int32)) % (3 : Int32))), some (.int (((sg (ix (x3 + (2 : Int32)))) &&& (255 : Int32)) % (5 : Int32))), some (.int (((sg (ix (x3 + (2 : Int32)))) &&& (255 : Int32)) &&& (7 : Int32))), none, none, none]) (st' := [.int (248 : Int32), .int ((sg (ix (x3 + (3 : Int32)))) &&& (255 : Int32)), .int ((((sg (ix (x3 + (3 : Int32)))) &&& (255 : Int32)) &&& (3 : Int32)) ||| ((((sg (ix (x3 + (3 : Int32)))) &&& (255 : Int32)) &&& (12 : Int32)) <<< ((2 : Int32) &&& 31)))]) rfl ?_
    have hm13 : ∀ m12, m12 = (if ((sg (ix (x3 + (3 : Int32)))) &&& (255 : Int32)) < (248 : Int32) then (0 : Int32) else (64 : Int32)) → wplI PP QQ (some (N, sg)) 0 lm0 118 [some (.ref 0), some (.ref 1), some (.ref 2), some (.int x3), some (.int ((sg (ix x3)) &&& (7 : Int32))), some (.int ((sg (ix (x3 + (1 : Int32)))) &&& (255 : Int32))), some (.int ((sg (ix (x3 + (2 : Int32)))) &&& (255 : Int32))), some (.int ((sg (ix (x3 + (3 : Int32)))) &&& (255 : Int32))), some (.int (((sg (ix (x3 + (1 : Int32)))) &&& (255 : Int32)) % (3 : Int32))), some (.int (((sg (ix (x3 + (2 : Int32)))) &&& (255 : Int32)) % (5 : Int32))), some (.int (((sg (ix (x3 + (2 : Int32)))) &&& (255 : Int32)) &&& (7 : Int32))), none, none, none] [.int m12, .int ((((sg (ix (x3 + (3 : Int32)))) &&& (255 : Int32)) &&& (3 : Int32)) ||| ((((sg (ix (x3 + (3 : Int32)))) &&& (255 : Int32)) &&& (12 : Int32)) <<< ((2 : Int32) &&& 31)))] (W2 s t) Q := by
      intro m12 em12
      have h14 := h11 m12 em12
      refine wpl_sl (n := 5) (pc' := 126) (ls' := [some (.ref 0), some (.ref 1), some (.ref 2), some (.int x3), some (.int ((sg (ix x3)) &&& (7 : Int32))), some (.int ((sg (ix (x3 + (1 : Int32)))) &&& (255 : Int32))), some (.int ((sg (ix (x3 + (2 : Int32)))) &&& (255 : Int32))), some (.int ((sg (ix (x3 + (3 : Int32)))) &&& (255 : Int32))), some (.int (((sg (ix (x3 + (1 : Int32)))) &&& (255 : Int32)) % (3 : Int32))), some (.int (((sg (ix (x3 + (2 : Int32)))) &&& (255 : Int32)) % (5 : Int32))), some (.int (((sg (ix (x3 + (2 : Int32)))) &&& (255 : Int32)) &&& (7 : Int32))), some (.int (((((sg (ix (x3 + (3 : Int32)))) &&& (255 : Int32)) &&& (3 : Int32)) ||| ((((sg (ix (x3 + (3 : Int32)))) &&& (255 : Int32)) &&& (12 : Int32)) <<< ((2 : Int32) &&& 31))) ||| m12)), none, none]) (st' := [.int (((sg (ix (x3 + (1 : Int32)))) &&& (255 : Int32)) % (3 : Int32)), .int ((sg (ix x3)) &&& (7 : Int32)), .ref 2]) rfl ?_
      refine wpl_sl (n := 5) (pc' := 134) (ls' := [some (.ref 0), some (.ref 1), some (.ref 2), some (.int x3), some (.int ((sg (ix x3)) &&& (7 : Int32))), some (.int ((sg (ix (x3 + (1 : Int32)))) &&& (255 : Int32))), some (.int ((sg (ix (x3 + (2 : Int32)))) &&& (255 : Int32))), some (.int ((sg (ix (x3 + (3 : Int32)))) &&& (255 : Int32))), some (.int (((sg (ix (x3 + (1 : Int32)))) &&& (255 : Int32)) % (3 : Int32))), some (.int (((sg (ix (x3 + (2 : Int32)))) &&& (255 : Int32)) % (5 : Int32))), some (.int (((sg (ix (x3 + (2 : Int32)))) &&& (255 : Int32)) &&& (7 : Int32))), some (.int (((((sg (ix (x3 + (3 : Int32)))) &&& (255 : Int32)) &&& (3 : Int32)) ||| ((((sg (ix (x3 + (3 : Int32)))) &&& (255 : Int32)) &&& (12 : Int32)) <<< ((2 : Int32) &&& 31))) ||| m12)), none, none]) (st' := [.int x3, .ref 0, .int (((sg (ix (x3 + (2 : Int32)))) &&& (255 : Int32)) &&& (7 : Int32)), .int (((((sg (ix (x3 + (3 : Int32)))) &&& (255 : Int32)) &&& (3 : Int32)) ||| ((((sg (ix (x3 + (3 : Int32)))) &&& (255 : Int32)) &&& (12 : Int32)) <<< ((2 : Int32) &&& 31))) ||| m12), .int (((sg (ix (x3 + (2 : Int32)))) &&& (255 : Int32)) % (5 : Int32)), .int (((sg (ix (x3 + (1 : Int32)))) &&& (255 : Int32)) % (3 : Int32)), .int ((sg (ix x3)) &&& (7 : Int32)), .ref 2]) rfl ?_
      refine wpl_sl (n := 2) (pc' := 136) (ls' := [some (.ref 0), some (.ref 1), some (.ref 2), some (.int x3), some (.int ((sg (ix x3)) &&& (7 : Int32))), some (.int ((sg (ix (x3 + (1 : Int32)))) &&& (255 : Int32))), some (.int ((sg (ix (x3 + (2 : Int32)))) &&& (255 : Int32))), some (.int ((sg (ix (x3 + (3 : Int32)))) &&& (255 : Int32))), some (.int (((sg (ix (x3 + (1 : Int32)))) &&& (255 : Int32)) % (3 : Int32))), some (.int (((sg (ix (x3 + (2 : Int32)))) &&& (255 : Int32)) % (5 : Int32))), some (.int (((sg (ix (x3 + (2 : Int32)))) &&& (255 : Int32)) &&& (7 : Int32))), some (.int (((((sg (ix (x3 + (3 : Int32)))) &&& (255 : Int32)) &&& (3 : Int32)) ||| ((((sg (ix (x3 + (3 : Int32)))) &&& (255 : Int32)) &&& (12 : Int32)) <<< ((2 : Int32) &&& 31))) ||| m12)), none, none]) (st' := [.int (x3 + (3 : Int32)), .ref 0, .int (((sg (ix (x3 + (2 : Int32)))) &&& (255 : Int32)) &&& (7 : Int32)), .int (((((sg (ix (x3 + (3 : Int32)))) &&& (255 : Int32)) &&& (3 : Int32)) ||| ((((sg (ix (x3 + (3 : Int32)))) &&& (255 : Int32)) &&& (12 : Int32)) <<< ((2 : Int32) &&& 31))) ||| m12), .int (((sg (ix (x3 + (2 : Int32)))) &&& (255 : Int32)) % (5 : Int32)), .int (((sg (ix (x3 + (1 : Int32)))) &&& (255 : Int32)) % (3 : Int32)), .int ((sg (ix x3)) &&& (7 : Int32)), .ref 2]) rfl ?_
      refine wpl_lda rfl h14.1 ?_
      have h15 := h14.2
      refine wpl_stat (m' := 3) (me' := lm3) (as := [.ref 2, .int ((sg (ix x3)) &&& (7 : Int32)), .int (((sg (ix (x3 + (1 : Int32)))) &&& (255 : Int32)) % (3 : Int32)), .int (((sg (ix (x3 + (2 : Int32)))) &&& (255 : Int32)) % (5 : Int32)), .int (((((sg (ix (x3 + (3 : Int32)))) &&& (255 : Int32)) &&& (3 : Int32)) ||| ((((sg (ix (x3 + (3 : Int32)))) &&& (255 : Int32)) &&& (12 : Int32)) <<< ((2 : Int32) &&& 31))) ||| m12), .int (((sg (ix (x3 + (2 : Int32)))) &&& (255 : Int32)) &&& (7 : Int32)), .int (sg (ix (x3 + (3 : Int32))))]) (r := []) rfl rfl rfl rfl rfl ⟨(by first | decide | exact Nat.le_of_ble_eq_true rfl), (by first | decide | exact Nat.le_of_ble_eq_true rfl), (by first | decide | exact Nat.le_of_ble_eq_true rfl), (by first | decide | exact Nat.le_of_ble_eq_true rfl), rfl⟩ (lal_I (lalI.mono h15 fun v17 w16 hh => ?_))
      obtain ⟨s19, s20, rfl, h18⟩ := hh
      refine wpl_sl (n := 2) (pc' := 144) (ls' := [some (.ref 0), some (.ref 1), some (.ref 2), some (.int x3), some (.int ((sg (ix x3)) &&& (7 : Int32))), some (.int ((sg (ix (x3 + (1 : Int32)))) &&& (255 : Int32))), some (.int ((sg (ix (x3 + (2 : Int32)))) &&& (255 : Int32))), some (.int ((sg (ix (x3 + (3 : Int32)))) &&& (255 : Int32))), some (.int (((sg (ix (x3 + (1 : Int32)))) &&& (255 : Int32)) % (3 : Int32))), some (.int (((sg (ix (x3 + (2 : Int32)))) &&& (255 : Int32)) % (5 : Int32))), some (.int (((sg (ix (x3 + (2 : Int32)))) &&& (255 : Int32)) &&& (7 : Int32))), some (.int (((((sg (ix (x3 + (3 : Int32)))) &&& (255 : Int32)) &&& (3 : Int32)) ||| ((((sg (ix (x3 + (3 : Int32)))) &&& (255 : Int32)) &&& (12 : Int32)) <<< ((2 : Int32) &&& 31))) ||| m12)), some (.int v17), none]) (st' := [.int v17]) rfl ?_
      refine wpl_if (a := 177) (b := 147) rfl (by decide) rfl rfl (wpl_br (p := v17 < (0 : Int32)) ⟨fun hc21 => ?_, fun hc21 => ?_⟩)
      · have h22 := h18.1 hc21
        exact wpl_lle (ls := [some (.ref 0), some (.ref 1), some (.ref 2), some (.int x3), none, none, none, none, none, none, none, none, none, none]) ⟨rfl, rfl, rfl, rfl, trivial⟩ h22
      · have h23 := h18.2 hc21
        refine wpl_sl (n := 5) (pc' := 156) (ls' := [some (.ref 0), some (.ref 1), some (.ref 2), some (.int x3), some (.int ((sg (ix x3)) &&& (7 : Int32))), some (.int ((sg (ix (x3 + (1 : Int32)))) &&& (255 : Int32))), some (.int ((sg (ix (x3 + (2 : Int32)))) &&& (255 : Int32))), some (.int ((sg (ix (x3 + (3 : Int32)))) &&& (255 : Int32))), some (.int (((sg (ix (x3 + (1 : Int32)))) &&& (255 : Int32)) % (3 : Int32))), some (.int (((sg (ix (x3 + (2 : Int32)))) &&& (255 : Int32)) % (5 : Int32))), some (.int (((sg (ix (x3 + (2 : Int32)))) &&& (255 : Int32)) &&& (7 : Int32))), some (.int (((((sg (ix (x3 + (3 : Int32)))) &&& (255 : Int32)) &&& (3 : Int32)) ||| ((((sg (ix (x3 + (3 : Int32)))) &&& (255 : Int32)) &&& (12 : Int32)) <<< ((2 : Int32) &&& 31))) ||| m12)), some (.int v17), none]) (st' := [.int (((((sg (ix (x3 + (3 : Int32)))) &&& (255 : Int32)) &&& (3 : Int32)) ||| ((((sg (ix (x3 + (3 : Int32)))) &&& (255 : Int32)) &&& (12 : Int32)) <<< ((2 : Int32) &&& 31))) ||| m12), .int (((sg (ix (x3 + (2 : Int32)))) &&& (255 : Int32)) % (5 : Int32)), .int (((sg (ix (x3 + (1 : Int32)))) &&& (255 : Int32)) % (3 : Int32)), .int ((sg (ix x3)) &&& (7 : Int32)), .ref 1]) rfl ?_
        refine wpl_sl (n := 5) (pc' := 162) (ls' := [some (.ref 0), some (.ref 1), some (.ref 2), some (.int x3), some (.int ((sg (ix x3)) &&& (7 : Int32))), some (.int ((sg (ix (x3 + (1 : Int32)))) &&& (255 : Int32))), some (.int ((sg (ix (x3 + (2 : Int32)))) &&& (255 : Int32))), some (.int ((sg (ix (x3 + (3 : Int32)))) &&& (255 : Int32))), some (.int (((sg (ix (x3 + (1 : Int32)))) &&& (255 : Int32)) % (3 : Int32))), some (.int (((sg (ix (x3 + (2 : Int32)))) &&& (255 : Int32)) % (5 : Int32))), some (.int (((sg (ix (x3 + (2 : Int32)))) &&& (255 : Int32)) &&& (7 : Int32))), some (.int (((((sg (ix (x3 + (3 : Int32)))) &&& (255 : Int32)) &&& (3 : Int32)) ||| ((((sg (ix (x3 + (3 : Int32)))) &&& (255 : Int32)) &&& (12 : Int32)) <<< ((2 : Int32) &&& 31))) ||| m12)), some (.int v17), none]) (st' := [.int (x3 + (3 : Int32)), .ref 0, .int (((sg (ix (x3 + (2 : Int32)))) &&& (255 : Int32)) &&& (7 : Int32)), .int (((((sg (ix (x3 + (3 : Int32)))) &&& (255 : Int32)) &&& (3 : Int32)) ||| ((((sg (ix (x3 + (3 : Int32)))) &&& (255 : Int32)) &&& (12 : Int32)) <<< ((2 : Int32) &&& 31))) ||| m12), .int (((sg (ix (x3 + (2 : Int32)))) &&& (255 : Int32)) % (5 : Int32)), .int (((sg (ix (x3 + (1 : Int32)))) &&& (255 : Int32)) % (3 : Int32)), .int ((sg (ix x3)) &&& (7 : Int32)), .ref 1]) rfl ?_
        refine wpl_lda rfl h23.1 ?_
        have h24 := h23.2
        refine wpl_stat (m' := 3) (me' := lm3) (as := [.ref 1, .int ((sg (ix x3)) &&& (7 : Int32)), .int (((sg (ix (x3 + (1 : Int32)))) &&& (255 : Int32)) % (3 : Int32)), .int (((sg (ix (x3 + (2 : Int32)))) &&& (255 : Int32)) % (5 : Int32)), .int (((((sg (ix (x3 + (3 : Int32)))) &&& (255 : Int32)) &&& (3 : Int32)) ||| ((((sg (ix (x3 + (3 : Int32)))) &&& (255 : Int32)) &&& (12 : Int32)) <<< ((2 : Int32) &&& 31))) ||| m12), .int (((sg (ix (x3 + (2 : Int32)))) &&& (255 : Int32)) &&& (7 : Int32)), .int (sg (ix (x3 + (3 : Int32))))]) (r := []) rfl rfl rfl rfl rfl ⟨(by first | decide | exact Nat.le_of_ble_eq_true rfl), (by first | decide | exact Nat.le_of_ble_eq_true rfl), (by first | decide | exact Nat.le_of_ble_eq_true rfl), (by first | decide | exact Nat.le_of_ble_eq_true rfl), rfl⟩ (lal_I (lalI.mono h24 fun v26 w25 hh => ?_))
        obtain ⟨s28, s29, rfl, h27⟩ := hh
        refine wpl_sl (n := 3) (pc' := 172) (ls' := [some (.ref 0), some (.ref 1), some (.ref 2), some (.int x3), some (.int ((sg (ix x3)) &&& (7 : Int32))), some (.int ((sg (ix (x3 + (1 : Int32)))) &&& (255 : Int32))), some (.int ((sg (ix (x3 + (2 : Int32)))) &&& (255 : Int32))), some (.int ((sg (ix (x3 + (3 : Int32)))) &&& (255 : Int32))), some (.int (((sg (ix (x3 + (1 : Int32)))) &&& (255 : Int32)) % (3 : Int32))), some (.int (((sg (ix (x3 + (2 : Int32)))) &&& (255 : Int32)) % (5 : Int32))), some (.int (((sg (ix (x3 + (2 : Int32)))) &&& (255 : Int32)) &&& (7 : Int32))), some (.int (((((sg (ix (x3 + (3 : Int32)))) &&& (255 : Int32)) &&& (3 : Int32)) ||| ((((sg (ix (x3 + (3 : Int32)))) &&& (255 : Int32)) &&& (12 : Int32)) <<< ((2 : Int32) &&& 31))) ||| m12)), some (.int v17), some (.int v26)]) (st' := [.int v17, .int v26]) rfl ?_
        refine wpl_icmp (a := 177) (b := 175) rfl (by decide) rfl rfl (wpl_br (p := v26 = v17) ⟨fun hc30 => ?_, fun hc30 => ?_⟩)
        · have h31 := h27.1 hc30
          exact wpl_lle (ls := [some (.ref 0), some (.ref 1), some (.ref 2), some (.int x3), none, none, none, none, none, none, none, none, none, none]) ⟨rfl, rfl, rfl, rfl, trivial⟩ h31
        · have h32 := h27.2 hc30
          refine wpl_sl (n := 1) (pc' := 176) (ls' := [some (.ref 0), some (.ref 1), some (.ref 2), some (.int x3), some (.int ((sg (ix x3)) &&& (7 : Int32))), some (.int ((sg (ix (x3 + (1 : Int32)))) &&& (255 : Int32))), some (.int ((sg (ix (x3 + (2 : Int32)))) &&& (255 : Int32))), some (.int ((sg (ix (x3 + (3 : Int32)))) &&& (255 : Int32))), some (.int (((sg (ix (x3 + (1 : Int32)))) &&& (255 : Int32)) % (3 : Int32))), some (.int (((sg (ix (x3 + (2 : Int32)))) &&& (255 : Int32)) % (5 : Int32))), some (.int (((sg (ix (x3 + (2 : Int32)))) &&& (255 : Int32)) &&& (7 : Int32))), some (.int (((((sg (ix (x3 + (3 : Int32)))) &&& (255 : Int32)) &&& (3 : Int32)) ||| ((((sg (ix (x3 + (3 : Int32)))) &&& (255 : Int32)) &&& (12 : Int32)) <<< ((2 : Int32) &&& 31))) ||| m12)), some (.int v17), some (.int v26)]) (st' := [.int (0 : Int32)]) rfl ?_
          exact wpl_ret rfl rfl rfl ⟨(0 : Int32), rfl, h32⟩
    refine wpl_icmp (a := 117) (b := 112) rfl (by decide) rfl rfl (wpl_br (p := ((sg (ix (x3 + (3 : Int32)))) &&& (255 : Int32)) < (248 : Int32)) ⟨fun hc33 => ?_, fun hc33 => ?_⟩)
    · refine wpl_sl (n := 1) (pc' := 118) (ls' := [some (.ref 0), some (.ref 1), some (.ref 2), some (.int x3), some (.int ((sg (ix x3)) &&& (7 : Int32))), some (.int ((sg (ix (x3 + (1 : Int32)))) &&& (255 : Int32))), some (.int ((sg (ix (x3 + (2 : Int32)))) &&& (255 : Int32))), some (.int ((sg (ix (x3 + (3 : Int32)))) &&& (255 : Int32))), some (.int (((sg (ix (x3 + (1 : Int32)))) &&& (255 : Int32)) % (3 : Int32))), some (.int (((sg (ix (x3 + (2 : Int32)))) &&& (255 : Int32)) % (5 : Int32))), some (.int (((sg (ix (x3 + (2 : Int32)))) &&& (255 : Int32)) &&& (7 : Int32))), none, none, none]) (st' := [.int (0 : Int32), .int ((((sg (ix (x3 + (3 : Int32)))) &&& (255 : Int32)) &&& (3 : Int32)) ||| ((((sg (ix (x3 + (3 : Int32)))) &&& (255 : Int32)) &&& (12 : Int32)) <<< ((2 : Int32) &&& 31)))]) rfl ?_
      first | exact hm13 _ (by simp only [if_pos hc33]) | exact wpl_lle (by repeat (first | exact trivial | refine ⟨rfl, ?_⟩)) (hm13 _ (by simp only [if_pos hc33]))
    · refine wpl_sl (n := 2) (pc' := 118) (ls' := [some (.ref 0), some (.ref 1), some (.ref 2), some (.int x3), some (.int ((sg (ix x3)) &&& (7 : Int32))), some (.int ((sg (ix (x3 + (1 : Int32)))) &&& (255 : Int32))), some (.int ((sg (ix (x3 + (2 : Int32)))) &&& (255 : Int32))), some (.int ((sg (ix (x3 + (3 : Int32)))) &&& (255 : Int32))), some (.int (((sg (ix (x3 + (1 : Int32)))) &&& (255 : Int32)) % (3 : Int32))), some (.int (((sg (ix (x3 + (2 : Int32)))) &&& (255 : Int32)) % (5 : Int32))), some (.int (((sg (ix (x3 + (2 : Int32)))) &&& (255 : Int32)) &&& (7 : Int32))), none, none, none]) (st' := [.int (64 : Int32), .int ((((sg (ix (x3 + (3 : Int32)))) &&& (255 : Int32)) &&& (3 : Int32)) ||| ((((sg (ix (x3 + (3 : Int32)))) &&& (255 : Int32)) &&& (12 : Int32)) <<< ((2 : Int32) &&& 31)))]) rfl ?_
      first | exact hm13 _ (by simp only [if_neg hc33]) | exact wpl_lle (by repeat (first | exact trivial | refine ⟨rfl, ?_⟩)) (hm13 _ (by simp only [if_neg hc33]))
  · have h7 := h.2 hc5
    refine wpl_sl (n := 1) (pc' := 194) (ls' := [some (.ref 0), some (.ref 1), some (.ref 2), some (.int x3), none, none, none, none, none, none, none, none, none, none]) (st' := [.int (1 : Int32)]) rfl ?_
    exact wpl_ret rfl rfl rfl ⟨(1 : Int32), rfl, h7⟩
theorem l0_177 (N : Nat) (sg : Nat → Int32) (x3 : Int32)  (Q : Int32 → Wd → Prop) (h : lalI PP QQ (some (N, sg)) 4 [.ref 1, .ref 2] (W2 s t) (fun v35 w34 => ∃ s37, ∃ s38, w34 = W2 s37 s38 ∧ (((v35 = (0 : Int32)) → Q (0 : Int32) (W2 s37 s38)) ∧ (¬ (v35 = (0 : Int32)) → wplI PP QQ (some (N, sg)) 0 lm0 24 [some (.ref 0), some (.ref 1), some (.ref 2), some (.int (x3 + (4 : Int32))), none, none, none, none, none, none, none, none, none, none] [] (W2 s37 s38) Q)))) : wplI PP QQ (some (N, sg)) 0 lm0 177 [some (.ref 0), some (.ref 1), some (.ref 2), some (.int x3), none, none, none, none, none, none, none, none, none, none] [] (W2 s t) Q := by
  refine wpl_sl (n := 2) (pc' := 179) (ls' := [some (.ref 0), some (.ref 1), some (.ref 2), some (.int x3), none, none, none, none, none, none, none, none, none, none]) (st' := [.ref 2, .ref 1]) rfl ?_
  refine wpl_stat (m' := 4) (me' := lm4) (as := [.ref 1, .ref 2]) (r := []) rfl rfl rfl rfl rfl ⟨(by first | decide | exact Nat.le_of_ble_eq_true rfl), (by first | decide | exact Nat.le_of_ble_eq_true rfl), (by first | decide | exact Nat.le_of_ble_eq_true rfl), (by first | decide | exact Nat.le_of_ble_eq_true rfl), rfl⟩ (lal_I (lalI.mono h fun v35 w34 hh => ?_))
  obtain ⟨s37, s38, rfl, h36⟩ := hh
  refine wpl_if (a := 187) (b := 185) rfl (by decide) rfl rfl (wpl_br (p := v35 = (0 : Int32)) ⟨fun hc39 => ?_, fun hc39 => ?_⟩)
  · have h40 := h36.1 hc39
    refine wpl_sl (n := 1) (pc' := 186) (ls' := [some (.ref 0), some (.ref 1), some (.ref 2), some (.int x3), none, none, none, none, none, none, none, none, none, none]) (st' := [.int (0 : Int32)]) rfl ?_
    exact wpl_ret rfl rfl rfl ⟨(0 : Int32), rfl, h40⟩
  · have h41 := h36.2 hc39
    refine wpl_sl (n := 2) (pc' := 24) (ls' := [some (.ref 0), some (.ref 1), some (.ref 2), some (.int (x3 + (4 : Int32))), none, none, none, none, none, none, none, none, none, none]) (st' := []) rfl ?_
    exact h41
theorem own_ex {m c : Nat} {as : List Value} {s : St} {Q : Int32 → St → Prop} (h : calI PP m c as s Q) : ∃ v s', (∀ R : Int32 → St → Prop, R v s' → calI PP m c as s R) ∧ Q v s' := by
  obtain ⟨f, r, s', e, v, er, q⟩ := h
  exact ⟨v, s', fun R hr => ⟨f, r, s', e, v, er, hr⟩, q⟩
def own_V (s : St) : Prop := gI s 0 17 = 2 ∧ gI s 0 18 = 3 ∧ gI s 0 19 = 2 ∧ (0 ≤ (gI s 0 31).toInt ∧ (gI s 0 31).toInt ≤ 16) ∧ ∀ j, 0 ≤ (gI s 3 j).toInt
def own_fr (s t : St) : Prop := (∀ j, gI t 0 j = gI s 0 j) ∧ (∀ j, gI t 3 j = gI s 3 j)
theorem own_fr_V {s t : St} (V : own_V s) (h : own_fr s t) : own_V t := by
  obtain ⟨a, b, c, d, e⟩ := V
  exact ⟨by rw [h.1, a], by rw [h.1, b], by rw [h.1, c], by rw [h.1]; exact d, fun j => by rw [h.2]; exact e j⟩
theorem own_fr_rfl (s : St) : own_fr s s := ⟨fun _ => rfl, fun _ => rfl⟩
theorem own_fr_s {s t : St} {c j : Nat} {v : Int32} (h : own_fr s t) (h0 : c ≠ 0) (h3 : c ≠ 3) : own_fr s (sI t c j v) := ⟨fun i => by rw [gI_sI, if_neg (fun q => h0 q.1.symm)]; exact h.1 i, fun i => by rw [gI_sI, if_neg (fun q => h3 q.1.symm)]; exact h.2 i⟩
theorem own_fr_tr {s t u : St} (h : own_fr s t) (k : own_fr t u) : own_fr s u := ⟨fun i => by rw [k.1, h.1], fun i => by rw [k.2, h.2]⟩
theorem own_shr (x : Int32) : (x >>> ((1 : Int32) &&& 31)).toInt = x.toInt / 2 := Jvm.Kit.i32_shr x ((1 : Int32) &&& 31) (k := 1) (by decide)
theorem own_hb {x : Int32} (h : 0 ≤ x.toInt ∧ x.toInt < 4) : inb 8 (x >>> ((1 : Int32) &&& 31)) := by
  have := own_shr x
  exact ⟨by omega, by show _ < (8 : Int); omega⟩
theorem own_3 (s : St) (V : own_V s) (fd : Int32) (Q : Int32 → St → Prop) (h0 : Q 0 s) (h1 : ∀ v, 0 ≤ fd.toInt ∧ fd.toInt < 4 → Q v s) : calI PP 3 11 [.ref 0, .int fd] s Q := by
  have e4 : (2 : Int32) * gI s 0 17 = 4 := by rw [V.1]; decide
  apply c3_in
  rw [e4]
  refine ⟨fun _ => h0, fun a => ⟨fun b => ?_, fun _ => h0⟩⟩
  have r : 0 ≤ fd.toInt ∧ fd.toInt < 4 := by rw [i32_lt] at a b; simp at a b; omega
  exact ⟨fun _ => ⟨own_hb r, h1 _ r⟩, fun _ => ⟨own_hb r, h1 _ r⟩⟩
theorem own_4 (s : St) (fd : Int32) (r : 0 ≤ fd.toInt ∧ fd.toInt < 4) (Q : Int32 → St → Prop) (h : ∀ v, Q v s) : calI PP 4 11 [.ref 0, .int fd] s Q := by
  have b := own_hb r
  apply c4_in
  exact ⟨fun _ => ⟨b, fun _ => ⟨b, fun _ => h _, fun _ => h _⟩, fun _ => ⟨b, fun m _ => ⟨b, fun _ => h _, fun _ => h _⟩⟩⟩, fun _ => ⟨b, fun _ => ⟨b, fun _ => h _, fun _ => h _⟩, fun _ => ⟨b, fun m _ => ⟨b, fun _ => h _, fun _ => h _⟩⟩⟩⟩
theorem own_6 (s : St) (V : own_V s) (q : Int32) (Q : Int32 → St → Prop) (h0 : Q 0 s) (h1 : 0 ≤ q.toInt ∧ q.toInt < 2 → Q 1 s) : calI PP 6 11 [.ref 0, .int q] s Q := by
  apply c6_in
  rw [V.2.2.1]
  exact ⟨fun _ => h0, fun a => ⟨fun b => h1 (by rw [i32_lt] at a b; simp at a b; omega), fun _ => h0⟩⟩
theorem own_ib {q fd : Int32} (hq : 0 ≤ q.toInt ∧ q.toInt < 2) (r : 0 ≤ fd.toInt ∧ fd.toInt < 4) : inb 64 (q * 16 + fd) := by
  have e1 : (q * 16).toInt = q.toInt * 16 := by rw [i32_mul] <;> simp <;> omega
  have e2 : (q * 16 + fd).toInt = q.toInt * 16 + fd.toInt := by rw [i32_add] <;> rw [e1] <;> omega
  exact ⟨by omega, by show _ < (64 : Int); omega⟩
theorem own_9 (s : St) (i fd : Int32) (ib : inb 64 i) (r : 0 ≤ fd.toInt ∧ fd.toInt < 4) (Q : Int32 → St → Prop) (h : ∀ v, Q v s) : calI PP 9 11 [.ref 0, .int i, .int fd] s Q := by
  apply c9_in
  exact ⟨ib, fun _ => h _, fun _ => ⟨ib, fun _ => own_4 s fd r _ fun v => ⟨ib, c5_in _ _ _ (h _)⟩, fun _ => ⟨ib, h _⟩⟩⟩
theorem own_10 (s : St) (i fd w : Int32) (ib : inb 64 i) (r : 0 ≤ fd.toInt ∧ fd.toInt < 4) (Q : St → Prop) (h : ∀ t, own_fr s t → Q t) : calV PP 10 11 [.ref 0, .int i, .int fd, .int w] s Q := by
  apply c10_in
  refine ⟨ib, ib, fun _ => ⟨ib, h _ (own_fr_s (own_fr_s (own_fr_s (own_fr_rfl s) (by decide) (by decide)) (by decide) (by decide)) (by decide) (by decide))⟩, fun _ => own_4 _ fd r _ fun v => c5_in _ _ _ ⟨ib, h _ (own_fr_s (own_fr_s (own_fr_s (own_fr_rfl s) (by decide) (by decide)) (by decide) (by decide)) (by decide) (by decide))⟩⟩
theorem own_11 (s : St) (i : Int32) (ib : inb 64 i) (Q : St → Prop) (h : ∀ t, own_fr s t → Q t) : calV PP 11 11 [.ref 0, .int i] s Q := by
  apply c11_in
  exact ⟨ib, ib, ib, ib, h _ (own_fr_s (own_fr_s (own_fr_s (own_fr_s (own_fr_rfl s) (by decide) (by decide)) (by decide) (by decide)) (by decide) (by decide)) (by decide) (by decide))⟩
theorem own_12 (s : St) (V : own_V s) (fd : Int32) (r : 0 ≤ fd.toInt ∧ fd.toInt < 4) (Q : St → Prop) (h : ∀ t, own_fr s t → Q t) : calV PP 12 11 [.ref 0, .int fd] s Q := by
  apply c12_in
  refine loop_up (F := fun i => ∀ u, own_fr s u → wpcV PP 12 cm12 11 2 [some (.ref 0), some (.int fd), some (.int i)] [] u Q) 2 (by decide) (fun i i0 i1 e ih u hu => ?_) (fun i hi u hu => ?_) 0 (by decide) (by decide) s (own_fr_rfl s)
  · refine c12_2 _ _ _ _ ⟨fun _ => c8_in _ _ _ _ (own_11 u _ (own_ib ⟨i0, i1⟩ r) _ fun t ht => ih t (own_fr_tr hu ht)), fun q => absurd (by rw [hu.1, V.2.2.1, i32_lt]; simpa using i1) q⟩
  · exact c12_2 _ _ _ _ ⟨fun q => absurd q (by rw [hu.1, V.2.2.1, i32_lt, hi]; decide), fun _ => h u hu⟩
theorem own_13 (s : St) (V : own_V s) (fd old : Int32) (Q : St → Prop) (h : ∀ t, own_fr s t → Q t) : calV PP 13 11 [.ref 0, .int fd, .int old] s Q := by
  apply c13_in
  refine own_3 s V fd _ ⟨fun _ => h s (own_fr_rfl s), fun q => absurd rfl q⟩ fun v r => ⟨fun _ => h s (own_fr_rfl s), fun _ => own_4 s fd r _ fun w => ?_⟩
  refine loop_up (F := fun i => ∀ u, own_fr s u → wpcV PP 13 cm13 11 18 [some (.ref 0), some (.int fd), some (.int old), some (.int w), some (.int i), none, none] [] u Q) 2 (by decide) (fun i i0 i1 e ih u hu => ?_) (fun i hi u hu => ?_) 0 (by decide) (by decide) s (own_fr_rfl s)
  · have ib := own_ib (q := i) (fd := fd) ⟨i0, i1⟩ r
    have nx := c13_107 fd old w i u Q (ih u hu)
    exact c13_18 _ _ _ _ _ _ ⟨fun _ => c8_in _ _ _ _ ⟨ib, fun _ => nx, fun _ => ⟨ib, fun _ => nx, fun _ => ⟨ib, fun _ => nx, fun _ => ⟨ib, c5_in _ _ _ ⟨ib, ib, c13_107 _ _ _ _ _ _ (ih _ (own_fr_s hu (by decide) (by decide)))⟩⟩⟩⟩⟩, fun q => absurd (by rw [hu.1, V.2.2.1, i32_lt]; simpa using i1) q⟩
  · exact c13_18 _ _ _ _ _ _ ⟨fun q => absurd q (by rw [hu.1, V.2.2.1, i32_lt, hi]; decide), fun _ => h u hu⟩
/-- a call that keeps the state in order, and leaves it where it answers below zero -/
def own_G (s : St) (v : Int32) (t : St) : Prop := own_V t ∧ (v < 0 → t = s)
theorem own_G0 {s t : St} (V : own_V t) : own_G s 0 t := ⟨V, fun q => absurd q (by decide)⟩
theorem own_Gn {s : St} (V : own_V s) (v : Int32) : own_G s v s := ⟨V, fun _ => rfl⟩
theorem own_15 (s : St) (V : own_V s) : calI PP 15 11 [.ref 0] s (own_G s) := by
  apply c15_in
  refine loop_up (F := fun i => wpcI PP 15 cm15 11 2 [some (.ref 0), some (.int i)] [] s (own_G s)) 2 (by decide) (fun i i0 i1 e ih => ?_) (fun i hi => ?_) 0 (by decide) (by decide)
  · have ib : inb 8 i := ⟨i0, by show _ < (8 : Int); omega⟩
    have nx := c15_58 i s _ ih
    refine c15_2 _ _ _ ⟨fun _ => ⟨ib, fun _ => ⟨ib, fun _ => ⟨ib, ib, ib, ib, ?_⟩, fun _ => nx⟩, fun _ => nx⟩, fun q => absurd (by rw [V.1, i32_lt]; simpa using i1) q⟩
    refine ⟨own_fr_V V (own_fr_s (own_fr_s (own_fr_s (own_fr_s (own_fr_rfl s) (by decide) (by decide)) (by decide) (by decide)) (by decide) (by decide)) (by decide) (by decide)), fun q => absurd q (by rw [i32_lt]; simp; omega)⟩
  · exact c15_2 _ _ _ ⟨fun q => absurd q (by rw [V.1, i32_lt, hi]; decide), fun _ => own_Gn V _⟩
theorem own_m15 (x : Int32) : 0 ≤ (x &&& 15).toInt ∧ (x &&& 15).toInt < 16 := by
  have := Jvm.Kit.i32_mask x 15 (k := 4) (by decide) (by decide)
  rw [this]; omega
theorem own_bi {x y : Int32} (r : 0 ≤ x.toInt ∧ x.toInt < 4) : inb 128 ((x >>> ((1 : Int32) &&& 31)) * 16 + (y &&& 15)) := by
  have a := own_shr x
  have b := own_m15 y
  have e1 : ((x >>> ((1 : Int32) &&& 31)) * 16).toInt = (x >>> ((1 : Int32) &&& 31)).toInt * 16 := i32_mul (by rw [a]; show _ ≤ _ * (16 : Int); omega) (by rw [a]; show _ * (16 : Int) < _; omega)
  have e2 : ((x >>> ((1 : Int32) &&& 31)) * 16 + (y &&& 15)).toInt = (x >>> ((1 : Int32) &&& 31)).toInt * 16 + (y &&& 15).toInt := by rw [i32_add] <;> rw [e1] <;> omega
  exact ⟨by omega, by show _ < (128 : Int); omega⟩
theorem own_two {x : Int32} (r : 0 ≤ x.toInt ∧ x.toInt < 4) : (0 ≤ ((2 : Int32) * (x >>> ((1 : Int32) &&& 31))).toInt ∧ ((2 : Int32) * (x >>> ((1 : Int32) &&& 31))).toInt < 4) ∧ (0 ≤ ((2 : Int32) * (x >>> ((1 : Int32) &&& 31)) + 1).toInt ∧ ((2 : Int32) * (x >>> ((1 : Int32) &&& 31)) + 1).toInt < 4) := by
  have a := own_shr x
  have e1 : ((2 : Int32) * (x >>> ((1 : Int32) &&& 31))).toInt = 2 * (x >>> ((1 : Int32) &&& 31)).toInt := i32_mul (by rw [a]; show _ ≤ (2 : Int) * _; omega) (by rw [a]; show (2 : Int) * _ < _; omega)
  have e2 : ((2 : Int32) * (x >>> ((1 : Int32) &&& 31)) + 1).toInt = 2 * (x >>> ((1 : Int32) &&& 31)).toInt + 1 := by rw [i32_add (by rw [e1, a]; show _ ≤ _ + (1 : Int); omega) (by rw [e1, a]; show _ + (1 : Int) < _; omega), e1]; rfl
  omega
theorem own_16 (s : St) (V : own_V s) (fd v : Int32) : calI PP 16 11 [.ref 0, .int fd, .int v] s (own_G s) := by
  apply c16_in
  refine own_3 s V fd _ ⟨fun _ => own_Gn V _, fun q => absurd rfl q⟩ fun x r => ⟨fun _ => own_Gn V _, fun _ => ⟨fun _ => own_Gn V _, fun _ => ?_⟩⟩
  have b := own_hb r
  obtain ⟨r0, r1⟩ := own_two r
  refine ⟨b, fun _ => own_Gn V _, fun _ => ⟨b, fun _ => ?_, fun _ => own_Gn V _⟩⟩
  refine own_4 s _ r0 _ fun o0 => own_4 s _ r1 _ fun o1 => ⟨b, b, own_bi r, b, b, ?_⟩
  have m := Jvm.Kit.i32_mask v 255 (k := 8) (by decide) (by decide)
  have V1 : ∀ k y, own_V (sI (sI s 3 k (v &&& 255)) 5 (ix (fd >>> ((1 : Int32) &&& 31))) y) := by
    intro k y
    obtain ⟨a, b, c, d, e⟩ := V
    refine ⟨by rw [gI_sI, if_neg (by omega), gI_sI, if_neg (by omega), a], by rw [gI_sI, if_neg (by omega), gI_sI, if_neg (by omega), b], by rw [gI_sI, if_neg (by omega), gI_sI, if_neg (by omega), c], by rw [gI_sI, if_neg (by omega), gI_sI, if_neg (by omega)]; exact d, fun j => ?_⟩
    rw [gI_sI, if_neg (by omega), gI_sI]
    split
    · rw [m]; omega
    · exact e j
  refine own_13 _ (V1 _ _) _ _ _ fun t ht => own_13 t (own_fr_V (V1 _ _) ht) _ _ _ fun u hu => own_G0 (own_fr_V (own_fr_V (V1 _ _) ht) hu)
theorem own_17 (s : St) (V : own_V s) (fd : Int32) : calI PP 17 11 [.ref 0, .int fd] s (own_G s) := by
  apply c17_in
  refine own_3 s V fd _ ⟨fun _ => own_Gn V _, fun q => absurd rfl q⟩ fun x r => ⟨fun _ => own_Gn V _, fun _ => ⟨fun _ => ?_, fun _ => own_Gn V _⟩⟩
  have b := own_hb r
  obtain ⟨r0, r1⟩ := own_two r
  refine ⟨b, fun _ => ⟨b, fun _ => own_Gn V _, fun _ => own_Gn V _⟩, fun _ => ?_⟩
  refine own_4 s _ r0 _ fun o0 => own_4 s _ r1 _ fun o1 => ⟨b, own_bi r, b, b, b, b, ?_⟩
  have V1 : ∀ x y, own_V (sI (sI s 4 (ix (fd >>> ((1 : Int32) &&& 31))) x) 5 (ix (fd >>> ((1 : Int32) &&& 31))) y) := fun x y => own_fr_V V (own_fr_s (own_fr_s (own_fr_rfl s) (by decide) (by decide)) (by decide) (by decide))
  refine own_13 _ (V1 _ _) _ _ _ fun t ht => own_13 t (own_fr_V (V1 _ _) ht) _ _ _ fun u hu => ⟨own_fr_V (own_fr_V (V1 _ _) ht) hu, fun q => absurd q ?_⟩
  rw [i32_lt]
  have := V.2.2.2.2 (ix ((fd >>> ((1 : Int32) &&& 31)) * 16 + (gI s 4 (ix (fd >>> ((1 : Int32) &&& 31))) &&& 15)))
  simp; exact this
theorem own_18 (s : St) (V : own_V s) (fd : Int32) : calI PP 18 11 [.ref 0, .int fd] s (own_G s) := by
  apply c18_in
  refine own_3 s V fd _ ⟨fun _ => own_Gn V _, fun q => absurd rfl q⟩ fun x r => ⟨fun _ => own_Gn V _, fun _ => ?_⟩
  have b := own_hb r
  have go : ∀ o y : Int32, wpcI PP 18 cm18 11 36 [some (.ref 0), some (.int fd), some (.int (fd >>> ((1 : Int32) &&& 31))), some (.int o), some (.int y)] [] s (own_G s) := by
    intro o y
    have V1 : ∀ c, (c = 1 ∨ c = 2) → own_V (sI s c (ix (fd >>> ((1 : Int32) &&& 31))) 0) := fun c hc => own_fr_V V (own_fr_s (own_fr_rfl s) (by omega) (by omega))
    refine c18_36 _ _ _ _ _ _ ⟨fun _ => ⟨b, c18_59 _ _ _ _ _ ?_⟩, fun _ => ⟨b, c18_59 _ _ _ _ _ ?_⟩⟩
    · exact own_12 _ (V1 1 (Or.inl rfl)) fd r _ fun t ht => own_13 t (own_fr_V (V1 1 (Or.inl rfl)) ht) _ _ _ fun u hu => own_G0 (own_fr_V (own_fr_V (V1 1 (Or.inl rfl)) ht) hu)
    · exact own_12 _ (V1 2 (Or.inr rfl)) fd r _ fun t ht => own_13 t (own_fr_V (V1 2 (Or.inr rfl)) ht) _ _ _ fun u hu => own_G0 (own_fr_V (own_fr_V (V1 2 (Or.inr rfl)) ht) hu)
  exact own_3 s V _ _ ⟨fun _ => go _ _, fun q => absurd rfl q⟩ fun x r' => ⟨fun _ => go _ _, fun _ => own_4 s _ r' _ fun y => go _ _⟩
theorem own_19 (s : St) (V : own_V s) (q fd w : Int32) : calI PP 19 11 [.ref 0, .int q, .int fd, .int w] s (own_G s) := by
  apply c19_in
  refine own_6 s V q _ ⟨fun _ => own_Gn V _, fun q => absurd rfl q⟩ fun hq => ⟨fun q => absurd q (by decide), fun _ => c7_in _ _ _ ⟨fun _ => ⟨fun q => absurd q (by decide), fun _ => ?_⟩, fun _ => ⟨fun _ => own_Gn V _, fun q => absurd rfl q⟩⟩⟩
  refine own_3 s V fd _ ⟨fun _ => own_Gn V _, fun q => absurd rfl q⟩ fun x r => ⟨fun _ => own_Gn V _, fun _ => ?_⟩
  have ib := own_ib hq r
  apply c8_in
  exact ⟨ib, fun _ => ⟨ib, own_10 _ _ fd w ib r _ fun t ht => own_G0 (own_fr_V (own_fr_V V (own_fr_s (own_fr_rfl s) (by decide) (by decide))) ht)⟩, fun _ => own_Gn V _⟩
theorem own_20 (s : St) (V : own_V s) (q fd w : Int32) : calI PP 20 11 [.ref 0, .int q, .int fd, .int w] s (own_G s) := by
  apply c20_in
  refine own_6 s V q _ ⟨fun _ => own_Gn V _, fun q => absurd rfl q⟩ fun hq => ⟨fun q => absurd q (by decide), fun _ => c7_in _ _ _ ⟨fun _ => ⟨fun q => absurd q (by decide), fun _ => ?_⟩, fun _ => ⟨fun _ => own_Gn V _, fun q => absurd rfl q⟩⟩⟩
  refine own_3 s V fd _ ⟨fun _ => own_Gn V _, fun q => absurd rfl q⟩ fun x r => ⟨fun _ => own_Gn V _, fun _ => ?_⟩
  have ib := own_ib hq r
  apply c8_in
  exact ⟨ib, fun _ => own_Gn V _, fun _ => own_10 _ _ fd w ib r _ fun t ht => own_G0 (own_fr_V V ht)⟩
theorem own_21 (s : St) (V : own_V s) (q fd : Int32) : calI PP 21 11 [.ref 0, .int q, .int fd] s (own_G s) := by
  apply c21_in
  refine own_6 s V q _ ⟨fun _ => own_Gn V _, fun q => absurd rfl q⟩ fun hq => ⟨fun q => absurd q (by decide), fun _ => ?_⟩
  refine own_3 s V fd _ ⟨fun _ => own_Gn V _, fun q => absurd rfl q⟩ fun x r => ⟨fun _ => own_Gn V _, fun _ => ?_⟩
  have ib := own_ib hq r
  apply c8_in
  exact ⟨ib, fun _ => own_Gn V _, fun _ => own_11 s _ ib _ fun t ht => own_G0 (own_fr_V V ht)⟩
theorem own_23 (s : St) (i : Int32) (ib : inb 64 i) (Q : St → Prop) (h : ∀ t, own_fr s t → Q t) : calV PP 23 11 [.ref 0, .int i] s Q := by
  apply c23_in
  exact ⟨ib, fun _ => ⟨ib, fun _ => h s (own_fr_rfl s), fun _ => ⟨ib, h _ (own_fr_s (own_fr_rfl s) (by decide) (by decide))⟩⟩, fun _ => ⟨ib, ib, h _ (own_fr_s (own_fr_s (own_fr_rfl s) (by decide) (by decide)) (by decide) (by decide))⟩⟩
theorem own_22 (s : St) (V : own_V s) (q m : Int32) : calI PP 22 11 [.ref 0, .int q, .int m] s (own_G s) := by
  have e4 : (2 : Int32) * gI s 0 17 = 4 := by rw [V.1]; decide
  apply c22_in
  refine own_6 s V q _ ⟨fun _ => own_Gn V _, fun q => absurd rfl q⟩ fun hq => ⟨fun q => absurd q (by decide), fun _ => ⟨fun _ => own_Gn V _, fun _ x _ => ?_⟩⟩
  rw [e4]
  have out : ∀ (n : Int32) (u : St), own_V u → 0 ≤ n.toInt → n.toInt ≤ 16 → wpcI PP 22 cm22 11 129 [some (.ref 0), none, none, none, some (.int n), none, none, none, none] [] u (own_G s) := by
    intro n u ⟨a, b, c, d, e⟩ n0 n1
    refine c22_129 _ _ _ ⟨⟨by rw [gI_sI, if_neg (by omega), a], by rw [gI_sI, if_neg (by omega), b], by rw [gI_sI, if_neg (by omega), c], by rw [gI_sI, if_pos ⟨rfl, rfl⟩]; exact ⟨n0, n1⟩, fun j => by rw [gI_sI, if_neg (by omega)]; exact e j⟩, fun q => absurd q (by rw [i32_lt]; simp; omega)⟩
  refine loop_up (F := fun i => ∀ (n : Int32) (u : St), own_V u → 0 ≤ n.toInt → n.toInt ≤ i.toInt → wpcI PP 22 cm22 11 43 [some (.ref 0), some (.int q), none, some (.int x), some (.int n), some (.int 4), some (.int i), none, none] [] u (own_G s)) 4 (by decide) (fun i i0 i1 e ih n u hu n0 n1 => ?_) (fun i hi n u hu n0 n1 => ?_) 0 (by decide) (by decide) 0 s V (by decide) (by decide)
  · have ib := own_ib (q := q) (fd := i) hq ⟨i0, i1⟩
    have nb : inb 16 n := ⟨n0, by show _ < (16 : Int); omega⟩
    have en : (n + 1).toInt = n.toInt + 1 := by rw [i32_add] <;> simp <;> omega
    have nx : ∀ (n' : Int32) (t : St), own_V t → 0 ≤ n'.toInt → n'.toInt ≤ i.toInt + 1 → wpcI PP 22 cm22 11 123 [some (.ref 0), some (.int q), none, some (.int x), some (.int n'), some (.int 4), some (.int i), none, none] [] t (own_G s) := fun n' t ht a b => c22_123 _ _ _ _ _ _ _ (ih n' t ht a (by omega))
    refine c22_43 _ _ _ _ _ _ _ ⟨fun _ => ⟨fun _ => c8_in _ _ _ _ ⟨ib, fun _ => nx n u hu n0 (by omega), fun _ => own_9 u _ i ib ⟨i0, i1⟩ _ fun v => ⟨fun _ => nx n u hu n0 (by omega), fun _ => ⟨nb, nb, own_23 _ _ ib _ fun t ht => nx (n + 1) t (own_fr_V (own_fr_V hu (own_fr_s (own_fr_s (own_fr_rfl u) (by decide) (by decide)) (by decide) (by decide))) ht) (by omega) (by omega)⟩⟩⟩, fun _ => out n u hu n0 (by omega)⟩, fun q => absurd (by rw [i32_lt]; exact i1) q⟩
  · exact c22_43 _ _ _ _ _ _ _ ⟨fun q => absurd q (by rw [i32_lt, hi]; decide), fun _ => out n u hu n0 (by omega)⟩
/-- a query -/
theorem own_pure {m c : Nat} {as : List Value} {s : St} (h : calI PP m c as s (fun _ t => t = s)) : ∃ v, ∀ R : Int32 → St → Prop, R v s → calI PP m c as s R := by
  obtain ⟨v, t, hr, e⟩ := own_ex h
  subst e
  exact ⟨v, hr⟩
theorem own_26 (s : St) (V : own_V s) (k : Int32) : calI PP 26 11 [.ref 0, .int k] s (fun _ t => t = s) := by
  apply c26_in
  rw [V.1]
  refine ⟨fun _ => rfl, fun a => ⟨fun b => ?_, fun _ => rfl⟩⟩
  have ib : inb 8 k := by
    rw [i32_lt] at a b; simp at a b
    exact ⟨a, by show _ < (8 : Int); omega⟩
  exact ⟨ib, fun _ => ⟨ib, fun _ => rfl, fun _ => ⟨ib, rfl⟩⟩, fun _ => ⟨ib, rfl⟩⟩
theorem own_27 (s : St) (V : own_V s) (k : Int32) : calI PP 27 11 [.ref 0, .int k] s (fun _ t => t = s) := by
  apply c27_in
  exact own_3 s V k _ ⟨fun _ => rfl, fun q => absurd rfl q⟩ fun x r => ⟨fun _ => rfl, fun _ => own_4 s k r _ fun _ => rfl⟩
theorem own_30 (s : St) (V : own_V s) (k : Int32) : calI PP 30 11 [.ref 0, .int k] s (fun _ t => t = s) := by
  have e4 : (2 : Int32) * gI s 0 17 = 4 := by rw [V.1]; decide
  apply c30_in
  refine own_6 s V k _ ⟨fun _ => rfl, fun q => absurd rfl q⟩ fun hq => ⟨fun q => absurd q (by decide), fun _ => ?_⟩
  rw [e4]
  refine loop_up (F := fun i => ∀ n : Int32, wpcI PP 30 cm30 11 22 [some (.ref 0), some (.int k), some (.int n), some (.int 4), some (.int i), none] [] s (fun _ t => t = s)) 4 (by decide) (fun i i0 i1 e ih n => ?_) (fun i hi n => ?_) 0 (by decide) (by decide) 0
  · have ib := own_ib (q := k) (fd := i) hq ⟨i0, i1⟩
    exact c30_22 _ _ _ _ _ _ ⟨fun _ => c8_in _ _ _ _ ⟨ib, fun _ => c30_61 _ _ _ _ _ _ (ih n), fun _ => own_9 s _ i ib ⟨i0, i1⟩ _ fun v m _ => c30_61 _ _ _ _ _ _ (ih m)⟩, fun q => absurd (by rw [i32_lt]; exact i1) q⟩
  · exact c30_22 _ _ _ _ _ _ ⟨fun q => absurd q (by rw [i32_lt, hi]; decide), fun _ => rfl⟩
theorem own_24 (s : St) (V : own_V s) (k : Int32) : calI PP 24 11 [.ref 0, .int k] s (fun _ t => t = s) := by
  apply c24_in
  refine ⟨fun _ => rfl, fun a => ⟨fun b => ⟨?_, rfl⟩, fun _ => rfl⟩⟩
  have := V.2.2.2.1
  rw [i32_lt] at a b; simp at a
  exact ⟨a, by show _ < (16 : Int); omega⟩
theorem own_25 (s : St) (V : own_V s) (k : Int32) : calI PP 25 11 [.ref 0, .int k] s (fun _ t => t = s) := by
  apply c25_in
  refine ⟨fun _ => rfl, fun a => ⟨fun b => ⟨?_, rfl⟩, fun _ => rfl⟩⟩
  have := V.2.2.2.1
  rw [i32_lt] at a b; simp at a
  exact ⟨a, by show _ < (16 : Int); omega⟩
theorem own_14 (s : St) (V : own_V s) (q fd : Int32) (Q : Int32 → St → Prop) (h0 : Q (-1) s) (h1 : ∀ i, inb 64 i → 0 ≤ fd.toInt ∧ fd.toInt < 4 → Q i s) : calI PP 14 11 [.ref 0, .int q, .int fd] s Q := by
  apply c14_in
  refine own_6 s V q _ ⟨fun _ => h0, fun q => absurd rfl q⟩ fun hq => ⟨fun q => absurd q (by decide), fun _ => ?_⟩
  refine own_3 s V fd _ ⟨fun _ => h0, fun q => absurd rfl q⟩ fun x r => ⟨fun _ => h0, fun _ => ?_⟩
  have ib := own_ib hq r
  apply c8_in
  exact ⟨ib, fun _ => h0, fun _ => h1 _ ib r⟩
theorem own_28 (s : St) (V : own_V s) (q fd : Int32) : calI PP 28 11 [.ref 0, .int q, .int fd] s (fun _ t => t = s) := by
  apply c28_in
  exact own_14 s V q fd _ ⟨fun _ => rfl, fun q => absurd (by decide) q⟩ fun i ib r => ⟨fun _ => rfl, fun _ => ⟨ib, ib, fun _ => rfl, fun _ => rfl⟩⟩
theorem own_29 (s : St) (V : own_V s) (q fd : Int32) : calI PP 29 11 [.ref 0, .int q, .int fd] s (fun _ t => t = s) := by
  apply c29_in
  exact own_14 s V q fd _ ⟨fun _ => rfl, fun q => absurd (by decide) q⟩ fun i ib r => ⟨fun _ => rfl, fun _ => own_9 s i fd ib r _ fun _ => rfl⟩
def own_tree (a1 a2 a3 a4 a5 a6 : Int32) (s : St) (Q : Int32 → St → Prop) : Prop := ((a1 = (0 : Int32)) → calI PP 15 11 [.ref 0] s Q) ∧ (¬ (a1 = (0 : Int32)) → ((a1 = (1 : Int32)) → calI PP 16 11 [.ref 0, .int a3, .int a6] s Q) ∧ (¬ (a1 = (1 : Int32)) → ((a1 = (2 : Int32)) → calI PP 17 11 [.ref 0, .int a3] s Q) ∧ (¬ (a1 = (2 : Int32)) → ((a1 = (3 : Int32)) → calI PP 18 11 [.ref 0, .int a3] s Q) ∧ (¬ (a1 = (3 : Int32)) → ((a1 = (4 : Int32)) → calI PP 19 11 [.ref 0, .int a2, .int a3, .int a4] s Q) ∧ (¬ (a1 = (4 : Int32)) → ((a1 = (5 : Int32)) → calI PP 20 11 [.ref 0, .int a2, .int a3, .int a4] s Q) ∧ (¬ (a1 = (5 : Int32)) → ((a1 = (6 : Int32)) → calI PP 21 11 [.ref 0, .int a2, .int a3] s Q) ∧ (¬ (a1 = (6 : Int32)) → calI PP 22 11 [.ref 0, .int a2, .int a5] s Q)))))))
theorem own_call (a1 a2 a3 a4 a5 a6 : Int32) (s : St) (V : own_V s) : ∃ v t, own_G s v t ∧ ∀ R : Int32 → St → Prop, R v t → own_tree a1 a2 a3 a4 a5 a6 s R := by
  unfold own_tree
  by_cases z0 : a1 = 0
  · obtain ⟨v, t, h, g⟩ := own_ex (own_15 s V)
    exact ⟨v, t, g, fun R hr => ⟨fun _ => h R hr, fun q => absurd z0 q⟩⟩
  by_cases z1 : a1 = 1
  · obtain ⟨v, t, h, g⟩ := own_ex (own_16 s V a3 a6)
    exact ⟨v, t, g, fun R hr => ⟨fun q => absurd q z0, fun _ => ⟨fun _ => h R hr, fun q => absurd z1 q⟩⟩⟩
  by_cases z2 : a1 = 2
  · obtain ⟨v, t, h, g⟩ := own_ex (own_17 s V a3)
    exact ⟨v, t, g, fun R hr => ⟨fun q => absurd q z0, fun _ => ⟨fun q => absurd q z1, fun _ => ⟨fun _ => h R hr, fun q => absurd z2 q⟩⟩⟩⟩
  by_cases z3 : a1 = 3
  · obtain ⟨v, t, h, g⟩ := own_ex (own_18 s V a3)
    exact ⟨v, t, g, fun R hr => ⟨fun q => absurd q z0, fun _ => ⟨fun q => absurd q z1, fun _ => ⟨fun q => absurd q z2, fun _ => ⟨fun _ => h R hr, fun q => absurd z3 q⟩⟩⟩⟩⟩
  by_cases z4 : a1 = 4
  · obtain ⟨v, t, h, g⟩ := own_ex (own_19 s V a2 a3 a4)
    exact ⟨v, t, g, fun R hr => ⟨fun q => absurd q z0, fun _ => ⟨fun q => absurd q z1, fun _ => ⟨fun q => absurd q z2, fun _ => ⟨fun q => absurd q z3, fun _ => ⟨fun _ => h R hr, fun q => absurd z4 q⟩⟩⟩⟩⟩⟩
  by_cases z5 : a1 = 5
  · obtain ⟨v, t, h, g⟩ := own_ex (own_20 s V a2 a3 a4)
    exact ⟨v, t, g, fun R hr => ⟨fun q => absurd q z0, fun _ => ⟨fun q => absurd q z1, fun _ => ⟨fun q => absurd q z2, fun _ => ⟨fun q => absurd q z3, fun _ => ⟨fun q => absurd q z4, fun _ => ⟨fun _ => h R hr, fun q => absurd z5 q⟩⟩⟩⟩⟩⟩⟩
  by_cases z6 : a1 = 6
  · obtain ⟨v, t, h, g⟩ := own_ex (own_21 s V a2 a3)
    exact ⟨v, t, g, fun R hr => ⟨fun q => absurd q z0, fun _ => ⟨fun q => absurd q z1, fun _ => ⟨fun q => absurd q z2, fun _ => ⟨fun q => absurd q z3, fun _ => ⟨fun q => absurd q z4, fun _ => ⟨fun q => absurd q z5, fun _ => ⟨fun _ => h R hr, fun q => absurd z6 q⟩⟩⟩⟩⟩⟩⟩⟩
  · obtain ⟨v, t, h, g⟩ := own_ex (own_22 s V a2 a5)
    exact ⟨v, t, g, fun R hr => ⟨fun q => absurd q z0, fun _ => ⟨fun q => absurd q z1, fun _ => ⟨fun q => absurd q z2, fun _ => ⟨fun q => absurd q z3, fun _ => ⟨fun q => absurd q z4, fun _ => ⟨fun q => absurd q z5, fun _ => ⟨fun q => absurd q z6, fun _ => h R hr⟩⟩⟩⟩⟩⟩⟩⟩
theorem own_same (N : Nat) (sg : Nat → Int32) (s : St) (V : own_V s) (R : Int32 → Wd → Prop) (h : R 1 (W2 s s)) : lalI PP QQ (some (N, sg)) 4 [.ref 1, .ref 2] (W2 s s) R := by
  apply l4r1r2W2_in
  have second : wplI PP QQ (some (N, sg)) 4 lm4 85 [some (.ref 1), some (.ref 2), some (.int (0 : Int32))] [] (W2 s s) R := by
    refine loop_up (F := fun i => wplI PP QQ (some (N, sg)) 4 lm4 85 [some (.ref 1), some (.ref 2), some (.int i)] [] (W2 s s) R) 16 (by decide) (fun i i0 i1 e ih => ?_) (fun i hi => ?_) 0 (by decide) (by decide)
    · obtain ⟨v, hv⟩ := own_pure (own_28 s V (i >>> ((2 : Int32) &&& 31)) (i &&& 3))
      obtain ⟨w, hw⟩ := own_pure (own_29 s V (i >>> ((2 : Int32) &&& 31)) (i &&& 3))
      exact l4r1r2W2_85 _ _ _ _ _ _ ⟨fun _ => hv _ (hv _ ⟨fun _ => hw _ (hw _ ⟨fun _ => ih, fun q => absurd rfl q⟩), fun q => absurd rfl q⟩), fun q => absurd (by rw [i32_lt]; exact i1) q⟩
    · exact l4r1r2W2_85 _ _ _ _ _ _ ⟨fun q => absurd q (by rw [i32_lt, hi]; decide), fun _ => h⟩
  have one : ∀ i : Int32, (i.toInt < 17 → wplI PP QQ (some (N, sg)) 4 lm4 2 [some (.ref 1), some (.ref 2), some (.int (i + 1))] [] (W2 s s) R) → wplI PP QQ (some (N, sg)) 4 lm4 2 [some (.ref 1), some (.ref 2), some (.int i)] [] (W2 s s) R := by
    intro i ih
    obtain ⟨a, ha⟩ := own_pure (own_26 s V i)
    obtain ⟨b, hb⟩ := own_pure (own_27 s V i)
    obtain ⟨c, hc⟩ := own_pure (own_30 s V i)
    obtain ⟨d, hd⟩ := own_pure (own_24 s V i)
    obtain ⟨f, hf⟩ := own_pure (own_25 s V i)
    exact l4r1r2W2_2 _ _ _ _ _ _ ⟨fun q => ha _ (ha _ ⟨fun _ => hb _ (hb _ ⟨fun _ => hc _ (hc _ ⟨fun _ => hd _ (hd _ ⟨fun _ => hf _ (hf _ ⟨fun _ => ih (by rw [i32_lt] at q; simpa using q), fun q => absurd rfl q⟩), fun q => absurd rfl q⟩), fun q => absurd rfl q⟩), fun q => absurd rfl q⟩), fun q => absurd rfl q⟩), fun _ => second⟩
  refine one (-1) fun _ => ?_
  have z : (-1 : Int32) + 1 = 0 := by decide
  rw [z]
  exact loop_up (F := fun i => wplI PP QQ (some (N, sg)) 4 lm4 2 [some (.ref 1), some (.ref 2), some (.int i)] [] (W2 s s) R) 17 (by decide) (fun i i0 i1 e ih => one i fun _ => ih) (fun i hi => one i fun q => absurd q (by omega)) 0 (by decide) (by decide)
theorem own_clamp (x lo hi : Int32) (s : St) (Q : Int32 → St → Prop) (h : Q (if x < lo then lo else if hi < x then hi else x) s) : calI PP 2 11 [.ref 0, .int x, .int lo, .int hi] s Q := by
  apply c2_in
  refine ⟨fun a => ?_, fun a => ⟨fun b => ?_, fun b => ?_⟩⟩
  · rw [if_pos a] at h; exact h
  · rw [if_neg a, if_pos b] at h; exact h
  · rw [if_neg a, if_neg b] at h; exact h
theorem law_ok (N : Nat) (sg : Nat → Int32) (hN : (N : Int) ≤ (260 : Int32).toInt) : lalI PP QQ (some (N, sg)) 0 [.ref 0] W0 (fun v _ => v = 1) := by
  have e260 : (260 : Int32).toInt = 260 := by decide
  have eN : (Int32.ofNat N).toInt = N := Int32.toInt_ofNat_of_lt (by omega)
  have key : ∀ (n : Nat) (i : Int32) (s : St), 0 ≤ i.toInt → i.toInt + n = N + 4 → own_V s → wplI PP QQ (some (N, sg)) 0 lm0 24 [some (.ref 0), some (.ref 1), some (.ref 2), some (.int i), none, none, none, none, none, none, none, none, none, none] [] (W2 s s) (fun v _ => v = 1) := by
    intro n
    induction n using Nat.strongRecOn with
    | _ n ih =>
    intro i s i0 hn V
    have e4 : (i + 4).toInt = i.toInt + 4 := by rw [i32_add] <;> simp <;> omega
    have e1 : (i + 1).toInt = i.toInt + 1 := by rw [i32_add] <;> simp <;> omega
    have e2 : (i + 2).toInt = i.toInt + 2 := by rw [i32_add] <;> simp <;> omega
    have e3 : (i + 3).toInt = i.toInt + 3 := by rw [i32_add] <;> simp <;> omega
    refine l0_24 _ _ _ _ ⟨fun a => ?_, fun _ => rfl⟩
    rw [i32_lt, eN, e3] at a
    have b3 : inb N (i + 3) := ⟨by omega, by omega⟩
    refine ⟨⟨i0, by omega⟩, ⟨by omega, by omega⟩, ⟨by omega, by omega⟩, b3, fun m em => ⟨b3, ?_⟩⟩
    clear em
    generalize (sg (ix i)) &&& (7 : Int32) = a1
    generalize ((sg (ix (i + (1 : Int32)))) &&& (255 : Int32)) % (3 : Int32) = a2
    generalize ((sg (ix (i + (2 : Int32)))) &&& (255 : Int32)) % (5 : Int32) = a3
    generalize ((((sg (ix (i + (3 : Int32)))) &&& (255 : Int32)) &&& (3 : Int32)) ||| ((((sg (ix (i + (3 : Int32)))) &&& (255 : Int32)) &&& (12 : Int32)) <<< ((2 : Int32) &&& 31))) ||| m = a4
    generalize ((sg (ix (i + (2 : Int32)))) &&& (255 : Int32)) &&& (7 : Int32) = a5
    obtain ⟨v, t, g, h⟩ := own_call a1 a2 a3 a4 a5 (sg (ix (i + 3))) s V
    have nx : own_V t → wplI PP QQ (some (N, sg)) 0 lm0 177 [some (.ref 0), some (.ref 1), some (.ref 2), some (.int i), none, none, none, none, none, none, none, none, none, none] [] (W2 t t) (fun v _ => v = 1) := by
      intro Vt
      apply l0_177
      refine own_same N sg t Vt _ ⟨t, t, rfl, fun q => absurd q (by decide), fun _ => ?_⟩
      exact ih (n - 4) (by omega) (i + 4) t (by omega) (by omega) Vt
    refine l3r2W2_in _ _ _ _ _ _ _ _ _ _ _ (h _ ⟨s, t, rfl, fun q => ?_, fun q => ⟨b3, ?_⟩⟩)
    · have e := g.2 q
      subst e
      exact nx g.1
    · exact l3r1W2_in _ _ _ _ _ _ _ _ _ _ _ (h _ ⟨t, t, rfl, fun _ => nx g.1, fun q => absurd rfl q⟩)
  apply l0_in
  have ct : ∀ Q : St → Prop, Q (sI (sI (sI (sI s0 0 17 2) 0 18 3) 0 19 2) 0 31 0) → calV PP 0 0 [.ref 0, .int (2 : Int32), .int (3 : Int32), .int (2 : Int32)] s0 Q := by
    intro Q hq
    apply c0_in
    apply own_clamp
    apply own_clamp
    apply own_clamp
    exact hq
  refine ct _ (ct _ (key (N + 4) 0 _ (by decide) (by show (0 : Int) + _ = _; omega) ⟨by simp [gI_sI], by simp [gI_sI], by simp [gI_sI], by simp [gI_sI], fun j => ?_⟩))
  rw [gI_sI, if_neg (by omega), gI_sI, if_neg (by omega), gI_sI, if_neg (by omega), gI_sI, if_neg (by omega)]
  show 0 ≤ (0 : Int32).toInt
  decide
theorem comes_1 {Post : Tables → Env → Array Value → State → Outcome → State → Prop} (hpost : ∀ tb e args s v u, (limb_1_1.after args s (.returned v) u = true ∧ limb_1_2.after args s (.returned v) u = true ∧ True) → FrameEnd s (.returned v) u (Jvm.fieldLocs frame_1_writes args s ++ Jvm.arrayLocs frame_1_arrays args s ++ Jvm.staticLocs frame_1_statics s) 56 1920 → Post tb e args s (.returned v) u) :
    ArmFor flags0 classFile x code maxLocals ret World_1 tables_1 room_1 Calls_1 rest_1 Pre_1 Post := by
  intro l hfl _ _ p e ha hc hk s m args below hf hA hF happ hP
  obtain ⟨hcalls, hrest, hpre⟩ := hP
  obtain ⟨-, -, -, hnamed, -, -, -, hat⟩ := (Spec.applies_iff hf).mp happ
  obtain ⟨hg, hn⟩ := and_e (Cond.before_iff.mp (show (Jvm.Cond.and given_1 narrow_1).before args s = true from hpre))
  obtain ⟨h1, g0⟩ := and_e hg
  obtain ⟨w0, rfl⟩ : ∃ w0 : Value, args = #[w0] := by
    have hs : args.size = 1 := by simpa [Cond.value, given_1] using h1
    obtain ⟨L⟩ := args
    match L, hs with
    | [w0], _ => exact ⟨w0, rfl⟩
  have hw := fun d (hd : d ∈ tables_1) => atoms_spec (ws := Jvm.Cond.code x code maxLocals ret :: tables_1) hat d (List.mem_cons_of_mem _ hd)
  have hfit : Fit s := fun {y c} hc i hi => by
    obtain ⟨ha, rfl⟩ := Array.getElem?_eq_some_iff.mp hc
    have q := List.all_eq_true.mp ((Array.all_eq_true_iff_forall_mem.mp hF) _ (Array.getElem_mem ha)) i (List.mem_range.mpr hi)
    simpa [Array.getElem?_eq_getElem hi] using q
  obtain ⟨hn1, hn2⟩ := and_e hn
  obtain ⟨a, ea⟩ := arr_v hn1
  obtain rfl : w0 = .ref a := Option.some.inj ea
  obtain ⟨cl, A⟩ := Arr.start ea hn1
  obtain ⟨⟨-, hN⟩, hS⟩ := script_of hfit A ea hn2
  obtain ⟨f, w0, hr⟩ := law_run (law_ok cl.slots.size (fun i => match cl.slots[i]? with | some (.int x) => x | _ => 0) hN) (me := lm0) rfl
  have M : MetFree l x (head1 (Jvm.Cond.code x code maxLocals ret :: tables_1) room_1) (fun b U => b = #[.ref a] ∧ s.Warmed39 U.vm ∧ U.heap = s.heap) (fun _ _ _ _ _ => True) (fun _ U o U' => ∃ u L, o = .returned u ∧ (u = some (.int 1) ∧ Fr s.heap.size L) ∧ FrameEnd U o U' L 56 1920) :=
    law_met (lkC s _ hw) (lkL s _ hw) (sc := some (cl.slots.size, fun i => match cl.slots[i]? with | some (.int x) => x | _ => 0)) (a := a) (me := lm0) rfl l (bytes := code) (chk_ok dk_l0) (as := [.ref 0]) rfl (Nat.le_of_ble_eq_true rfl) hr hS
  obtain ⟨n, o, h1, h2, h3, _, L, rfl, ⟨rfl, N⟩, hq⟩ := M p e ha hc hk s m _ below hf ((Spec.applies_iff_loose hf).mp happ).1 ⟨rfl, State.Warmed39.refl s, rfl⟩ trivial
  refine ⟨n, _, h1, h2, h3, hpost _ _ _ _ _ _ ⟨Cond.after_iff.mpr rfl, Cond.after_iff.mpr (eq_i res_at (Term.int_eval (1)) rfl), trivial⟩ ⟨hq.1, hq.2.1, (hq.2.2.sift fun y hy => Or.inr (N y hy)).mono (by decide) (by decide)⟩⟩
theorem main_1_1 : Claimed_1_1 := comes_1 fun _ _ _ _ _ _ h hF => ⟨h.1, hF⟩
theorem main_1_2 : Claimed_1_2 := comes_1 fun _ _ _ _ _ _ h hF => ⟨h.2.1, hF⟩
end Jvm.Pilot.@@N@@
namespace Jvm.Pilot.@@N@@
open Jvm Jvm.ClassFile Sem Op Lib Jvm.Free Jvm.Stand Jvm.Pilot.@@N@@.Jvm.D
/-! MADE BY PROGRAM (witnessworld.py) out of the Statement's table words and the real class files: 11 classes; the members and pool entries that the words name. The judged class is class 1, her method 1. -/
namespace start1
open Jvm.ClassFile
def u (s : String) : CpInfo := .utf8 (stringToUtf16 s)
/-- a pool by its gaps: so many unusable entries, then the entry; so many at the end -/
def gap : Nat → List CpInfo → List CpInfo
  | 0, r => r
  | n + 1, r => .unusable :: gap n r
def poolList (es : List (Nat × CpInfo)) (last : Nat) : List CpInfo := es.foldr (fun e r => gap e.1 (e.2 :: r)) (gap last [])
def pool (es : List (Nat × CpInfo)) (last : Nat) : Array CpInfo := ⟨poolList es last⟩
def fileOf (pool : Array CpInfo) (this : Nat) (attrs : Array Attribute := #[]) (ms : Array MethodInfo := #[]) (fl : Nat := 33) (sup : Nat := 0) (ifs : Array Nat := #[]) (fds : Array FieldInfo := #[]) : ClassFile where
  minorVersion := 0
  majorVersion := 65
  constantPool := pool
  accessFlags := fl
  thisClass := this
  superClass := sup
  interfaces := ifs
  fields := fds
  methods := ms
  attributes := attrs
def plain (name : String) (sup : Option ClassId) : Class where
  name := name
  kind := .ordinary
  loader := none
  accessFlags := 33
  super := sup
  interfaces := #[]
  cf := none
  fields := #[]
  methods := #[]
  instanceTypes := #[]
  staticTypes := #[]
  resolved := #[]
  callSites := []
  init := .initialized
  statics := none
  mirror := none

def pool0 : Array CpInfo := pool [(5, u "<init>"), (0, u "()V"), (1, .class_ 10), (1, u "java/lang/Object")] 113

def k0c0 : Code := { maxStack := 0, maxLocals := 1, code := object_method_1_code, exceptionTable := #[], attributes := #[] }
def k0m0 : Method := { name := "<init>", desc := "()V", sig := { parameters := [], returnType := none }, accessFlags := 1, code := some k0c0 }
/-- java/lang/Object -/
def k0 : Class := { plain "java/lang/Object" none with
  accessFlags := 33
  interfaces := #[]
  cf := some (fileOf pool0 8 #[] #[{ accessFlags := 1, nameIndex := 5, descriptorIndex := 6, attributes := #[] }] 33 0 #[] #[])
  fields := #[]
  methods := #[k0m0]
  instanceTypes := #[]
  staticTypes := #[]
  resolved := Array.replicate 124 none
  statics := none }

def pool1 : Array CpInfo := pool [(2, .class_ 4), (1, u "java/lang/Object"), (0, u "<init>"), (0, u "()V"), (0, .class_ 8), (0, u "ReadinessPoller"), (0, .methodref 7 10), (0, .nameAndType 5 11), (0, u "(III)V"), (0, .methodref 13 14), (0, .class_ 15), (0, .nameAndType 16 17), (0, u "ReadinessPollerL7"), (0, u "call"), (0, u "(LReadinessPoller;IIIIII)I"), (0, .methodref 13 19), (0, .nameAndType 20 21), (0, u "same"), (0, u "(LReadinessPoller;LReadinessPoller;)Z"), (0, .methodref 7 23), (0, .nameAndType 24 25), (0, u "createPipe"), (0, u "()I"), (0, .methodref 7 27), (0, .nameAndType 28 29), (0, u "write"), (0, u "(II)I"), (0, .methodref 7 31), (0, .nameAndType 32 33), (0, u "read"), (0, u "(I)I"), (0, .methodref 7 35), (0, .nameAndType 36 33), (0, u "closeFd"), (0, .methodref 7 38), (0, .nameAndType 39 40), (0, u "ctlAdd"), (0, u "(III)I"), (0, .methodref 7 42), (0, .nameAndType 43 40), (0, u "ctlMod"), (0, .methodref 7 45), (0, .nameAndType 46 29), (0, u "ctlDel"), (0, .methodref 7 48), (0, .nameAndType 49 29), (0, u "wait"), (0, .methodref 7 51), (0, .nameAndType 52 33), (0, u "pipeBytes"), (0, .methodref 7 54), (0, .nameAndType 55 33), (0, u "fdReadiness"), (0, .methodref 7 57), (0, .nameAndType 58 33), (0, u "readyCount"), (0, .methodref 7 60), (0, .nameAndType 61 33), (0, u "eventFd"), (0, .methodref 7 63), (0, .nameAndType 64 33), (0, u "eventMask"), (0, .methodref 7 66), (0, .nameAndType 67 29), (0, u "regInfo"), (0, .methodref 7 69), (0, .nameAndType 70 29), (0, u "peekReady"), (2, u "law"), (0, u "([I)Z")] 5

def k1m0 : Method := { name := "<init>", desc := "()V", sig := { parameters := [], returnType := none }, accessFlags := 1, code := none }
def k1c1 : Code := { maxStack := 9, maxLocals := 14, code := code, exceptionTable := #[], attributes := #[] }
def k1m1 : Method := { name := "law", desc := "([I)Z", sig := { parameters := [(.array .int)], returnType := some .boolean }, accessFlags := 9, code := some k1c1 }
def k1c2 : Code := { maxStack := 4, maxLocals := 7, code := method_3_code, exceptionTable := #[], attributes := #[] }
def k1m2 : Method := { name := "call", desc := "(LReadinessPoller;IIIIII)I", sig := { parameters := [(.object "ReadinessPoller"), .int, .int, .int, .int, .int, .int], returnType := some .int }, accessFlags := 10, code := some k1c2 }
def k1c3 : Code := { maxStack := 5, maxLocals := 3, code := method_4_code, exceptionTable := #[], attributes := #[] }
def k1m3 : Method := { name := "same", desc := "(LReadinessPoller;LReadinessPoller;)Z", sig := { parameters := [(.object "ReadinessPoller"), (.object "ReadinessPoller")], returnType := some .boolean }, accessFlags := 10, code := some k1c3 }
/-- ReadinessPollerL7 -/
def k1 : Class := { plain "ReadinessPollerL7" (some 0) with
  accessFlags := 49
  interfaces := #[]
  cf := some (fileOf pool1 13 #[] #[{ accessFlags := 1, nameIndex := 5, descriptorIndex := 6, attributes := #[] }, { accessFlags := 9, nameIndex := 73, descriptorIndex := 74, attributes := #[] }, { accessFlags := 10, nameIndex := 16, descriptorIndex := 17, attributes := #[] }, { accessFlags := 10, nameIndex := 20, descriptorIndex := 21, attributes := #[] }] 49 2 #[] #[])
  fields := #[]
  methods := #[k1m0, k1m1, k1m2, k1m3]
  instanceTypes := #[]
  staticTypes := #[]
  resolved := Array.replicate 80 none
  statics := none }

def pool2 : Array CpInfo := pool [(1, .methodref 2 3), (0, .class_ 4), (0, .nameAndType 5 6), (0, u "java/lang/Object"), (0, u "<init>"), (0, u "()V"), (0, .fieldref 8 9), (0, .class_ 10), (0, .nameAndType 11 12), (0, u "ReadinessPoller"), (0, u "readOpen"), (0, u "[Z"), (0, .fieldref 8 14), (0, .nameAndType 15 12), (0, u "writeOpen"), (0, .fieldref 8 17), (0, .nameAndType 18 19), (0, u "buf"), (0, u "[I"), (0, .fieldref 8 21), (0, .nameAndType 22 19), (0, u "head"), (0, .fieldref 8 24), (0, .nameAndType 25 19), (0, u "count"), (0, .fieldref 8 27), (0, .nameAndType 28 12), (0, u "regged"), (0, .fieldref 8 30), (0, .nameAndType 31 19), (0, u "word"), (0, .fieldref 8 33), (0, .nameAndType 34 12), (0, u "enabled"), (0, .fieldref 8 36), (0, .nameAndType 37 19), (0, u "pend"), (0, .fieldref 8 39), (0, .nameAndType 40 19), (0, u "resFd"), (0, .fieldref 8 42), (0, .nameAndType 43 19), (0, u "resMask"), (0, .methodref 8 45), (0, .nameAndType 46 47), (0, u "clamp"), (0, u "(III)I"), (0, .fieldref 8 49), (0, .nameAndType 50 51), (0, u "nPipes"), (0, u "I"), (0, .fieldref 8 53), (0, .nameAndType 54 51), (0, u "cap"), (0, .fieldref 8 56), (0, .nameAndType 57 51), (0, u "nPolls"), (0, .fieldref 8 59), (0, .nameAndType 60 51), (0, u "resN"), (0, .methodref 8 62), (0, .nameAndType 63 64), (0, u "rawReady"), (0, u "(I)I"), (0, .methodref 8 66), (0, .nameAndType 67 64), (0, u "watched"), (0, .methodref 8 69), (0, .nameAndType 70 71), (0, u "slot"), (0, u "(II)I"), (0, .methodref 8 73), (0, .nameAndType 74 75), (0, u "clearReg"), (0, u "(I)V"), (0, .methodref 8 77), (0, .nameAndType 78 79), (0, u "isOpen"), (0, u "(I)Z"), (0, .methodref 8 81), (0, .nameAndType 82 79), (0, u "validQ"), (0, .methodref 8 84), (0, .nameAndType 85 86), (0, u "edgeUpdate"), (0, u "(II)V"), (0, .methodref 8 88), (0, .nameAndType 89 75), (0, u "removeRegs"), (0, .methodref 8 91), (0, .nameAndType 92 79), (0, u "validWord"), (0, .methodref 8 94), (0, .nameAndType 95 96), (0, u "arm"), (0, u "(III)V"), (0, .methodref 8 98), (0, .nameAndType 99 71), (0, u "peek"), (0, .methodref 8 101), (0, .nameAndType 102 75), (0, u "consume"), (0, .methodref 8 104), (0, .nameAndType 105 71), (0, u "lookup"), (0, u "IN"), (2, u "OUT"), (1, u "HUP"), (1, u "ERR"), (1, u "EDGE"), (1, u "ONESHOT"), (1, u "DISABLED"), (1, u "OK"), (1, u "ERR_BADF"), (1, u "ERR_AGAIN"), (1, u "EOF"), (1, u "ERR_PIPE"), (1, u "ERR_EXIST"), (1, u "ERR_INVAL"), (1, u "ERR_NOENT"), (1, u "ERR_NOPIPE"), (4, u "createPipe"), (0, u "()I"), (0, u "write"), (0, u "read"), (0, u "closeFd"), (0, u "ctlAdd"), (0, u "ctlMod"), (0, u "ctlDel"), (0, u "wait"), (0, u "eventFd"), (0, u "eventMask"), (0, u "pipeBytes"), (0, u "fdReadiness"), (0, u "regInfo"), (0, u "peekReady"), (0, u "readyCount")] 2

def k2c0 : Code := { maxStack := 5, maxLocals := 4, code := prog_1_method_1_code, exceptionTable := #[], attributes := #[] }
def k2m0 : Method := { name := "<init>", desc := "(III)V", sig := { parameters := [.int, .int, .int], returnType := none }, accessFlags := 1, code := some k2c0 }
def k2c1 : Code := { maxStack := 2, maxLocals := 4, code := prog_1_method_2_code, exceptionTable := #[], attributes := #[] }
def k2m1 : Method := { name := "clamp", desc := "(III)I", sig := { parameters := [.int, .int, .int], returnType := some .int }, accessFlags := 2, code := some k2c1 }
def k2c2 : Code := { maxStack := 3, maxLocals := 3, code := prog_1_method_3_code, exceptionTable := #[], attributes := #[] }
def k2m2 : Method := { name := "isOpen", desc := "(I)Z", sig := { parameters := [.int], returnType := some .boolean }, accessFlags := 2, code := some k2c2 }
def k2c3 : Code := { maxStack := 2, maxLocals := 4, code := prog_1_method_4_code, exceptionTable := #[], attributes := #[] }
def k2m3 : Method := { name := "rawReady", desc := "(I)I", sig := { parameters := [.int], returnType := some .int }, accessFlags := 2, code := some k2c3 }
def k2c4 : Code := { maxStack := 2, maxLocals := 2, code := prog_1_method_5_code, exceptionTable := #[], attributes := #[] }
def k2m4 : Method := { name := "watched", desc := "(I)I", sig := { parameters := [.int], returnType := some .int }, accessFlags := 2, code := some k2c4 }
def k2c5 : Code := { maxStack := 2, maxLocals := 2, code := prog_1_method_6_code, exceptionTable := #[], attributes := #[] }
def k2m5 : Method := { name := "validQ", desc := "(I)Z", sig := { parameters := [.int], returnType := some .boolean }, accessFlags := 2, code := some k2c5 }
def k2c6 : Code := { maxStack := 2, maxLocals := 2, code := prog_1_method_7_code, exceptionTable := #[], attributes := #[] }
def k2m6 : Method := { name := "validWord", desc := "(I)Z", sig := { parameters := [.int], returnType := some .boolean }, accessFlags := 2, code := some k2c6 }
def k2c7 : Code := { maxStack := 2, maxLocals := 3, code := prog_1_method_8_code, exceptionTable := #[], attributes := #[] }
def k2m7 : Method := { name := "slot", desc := "(II)I", sig := { parameters := [.int, .int], returnType := some .int }, accessFlags := 2, code := some k2c7 }
def k2c8 : Code := { maxStack := 4, maxLocals := 3, code := prog_1_method_9_code, exceptionTable := #[], attributes := #[] }
def k2m8 : Method := { name := "peek", desc := "(II)I", sig := { parameters := [.int, .int], returnType := some .int }, accessFlags := 2, code := some k2c8 }
def k2c9 : Code := { maxStack := 5, maxLocals := 4, code := prog_1_method_10_code, exceptionTable := #[], attributes := #[] }
def k2m9 : Method := { name := "arm", desc := "(III)V", sig := { parameters := [.int, .int, .int], returnType := none }, accessFlags := 2, code := some k2c9 }
def k2c10 : Code := { maxStack := 3, maxLocals := 2, code := prog_1_method_11_code, exceptionTable := #[], attributes := #[] }
def k2m10 : Method := { name := "clearReg", desc := "(I)V", sig := { parameters := [.int], returnType := none }, accessFlags := 2, code := some k2c10 }
def k2c11 : Code := { maxStack := 4, maxLocals := 3, code := prog_1_method_12_code, exceptionTable := #[], attributes := #[] }
def k2m11 : Method := { name := "removeRegs", desc := "(I)V", sig := { parameters := [.int], returnType := none }, accessFlags := 2, code := some k2c11 }
def k2c12 : Code := { maxStack := 6, maxLocals := 7, code := prog_1_method_13_code, exceptionTable := #[], attributes := #[] }
def k2m12 : Method := { name := "edgeUpdate", desc := "(II)V", sig := { parameters := [.int, .int], returnType := none }, accessFlags := 2, code := some k2c12 }
def k2c13 : Code := { maxStack := 3, maxLocals := 4, code := prog_1_method_14_code, exceptionTable := #[], attributes := #[] }
def k2m13 : Method := { name := "lookup", desc := "(II)I", sig := { parameters := [.int, .int], returnType := some .int }, accessFlags := 2, code := some k2c13 }
def k2c14 : Code := { maxStack := 3, maxLocals := 2, code := prog_1_method_15_code, exceptionTable := #[], attributes := #[] }
def k2m14 : Method := { name := "createPipe", desc := "()I", sig := { parameters := [], returnType := some .int }, accessFlags := 1, code := some k2c14 }
def k2c15 : Code := { maxStack := 4, maxLocals := 7, code := prog_1_method_16_code, exceptionTable := #[], attributes := #[] }
def k2m15 : Method := { name := "write", desc := "(II)I", sig := { parameters := [.int, .int], returnType := some .int }, accessFlags := 1, code := some k2c15 }
def k2c16 : Code := { maxStack := 4, maxLocals := 6, code := prog_1_method_17_code, exceptionTable := #[], attributes := #[] }
def k2m16 : Method := { name := "read", desc := "(I)I", sig := { parameters := [.int], returnType := some .int }, accessFlags := 1, code := some k2c16 }
def k2c17 : Code := { maxStack := 3, maxLocals := 5, code := prog_1_method_18_code, exceptionTable := #[], attributes := #[] }
def k2m17 : Method := { name := "closeFd", desc := "(I)I", sig := { parameters := [.int], returnType := some .int }, accessFlags := 1, code := some k2c17 }
def k2c18 : Code := { maxStack := 4, maxLocals := 5, code := prog_1_method_19_code, exceptionTable := #[], attributes := #[] }
def k2m18 : Method := { name := "ctlAdd", desc := "(III)I", sig := { parameters := [.int, .int, .int], returnType := some .int }, accessFlags := 1, code := some k2c18 }
def k2c19 : Code := { maxStack := 4, maxLocals := 5, code := prog_1_method_20_code, exceptionTable := #[], attributes := #[] }
def k2m19 : Method := { name := "ctlMod", desc := "(III)I", sig := { parameters := [.int, .int, .int], returnType := some .int }, accessFlags := 1, code := some k2c19 }
def k2c20 : Code := { maxStack := 3, maxLocals := 4, code := prog_1_method_21_code, exceptionTable := #[], attributes := #[] }
def k2m20 : Method := { name := "ctlDel", desc := "(II)I", sig := { parameters := [.int, .int], returnType := some .int }, accessFlags := 1, code := some k2c20 }
def k2c21 : Code := { maxStack := 3, maxLocals := 9, code := prog_1_method_22_code, exceptionTable := #[], attributes := #[] }
def k2m21 : Method := { name := "wait", desc := "(II)I", sig := { parameters := [.int, .int], returnType := some .int }, accessFlags := 1, code := some k2c21 }
def k2c22 : Code := { maxStack := 3, maxLocals := 2, code := prog_1_method_23_code, exceptionTable := #[], attributes := #[] }
def k2m22 : Method := { name := "consume", desc := "(I)V", sig := { parameters := [.int], returnType := none }, accessFlags := 2, code := some k2c22 }
def k2c23 : Code := { maxStack := 2, maxLocals := 2, code := prog_1_method_24_code, exceptionTable := #[], attributes := #[] }
def k2m23 : Method := { name := "eventFd", desc := "(I)I", sig := { parameters := [.int], returnType := some .int }, accessFlags := 1, code := some k2c23 }
def k2c24 : Code := { maxStack := 2, maxLocals := 2, code := prog_1_method_25_code, exceptionTable := #[], attributes := #[] }
def k2m24 : Method := { name := "eventMask", desc := "(I)I", sig := { parameters := [.int], returnType := some .int }, accessFlags := 1, code := some k2c24 }
def k2c25 : Code := { maxStack := 2, maxLocals := 2, code := prog_1_method_26_code, exceptionTable := #[], attributes := #[] }
def k2m25 : Method := { name := "pipeBytes", desc := "(I)I", sig := { parameters := [.int], returnType := some .int }, accessFlags := 1, code := some k2c25 }
def k2c26 : Code := { maxStack := 2, maxLocals := 2, code := prog_1_method_27_code, exceptionTable := #[], attributes := #[] }
def k2m26 : Method := { name := "fdReadiness", desc := "(I)I", sig := { parameters := [.int], returnType := some .int }, accessFlags := 1, code := some k2c26 }
def k2c27 : Code := { maxStack := 3, maxLocals := 5, code := prog_1_method_28_code, exceptionTable := #[], attributes := #[] }
def k2m27 : Method := { name := "regInfo", desc := "(II)I", sig := { parameters := [.int, .int], returnType := some .int }, accessFlags := 1, code := some k2c27 }
def k2c28 : Code := { maxStack := 3, maxLocals := 4, code := prog_1_method_29_code, exceptionTable := #[], attributes := #[] }
def k2m28 : Method := { name := "peekReady", desc := "(II)I", sig := { parameters := [.int, .int], returnType := some .int }, accessFlags := 1, code := some k2c28 }
def k2c29 : Code := { maxStack := 3, maxLocals := 6, code := prog_1_method_30_code, exceptionTable := #[], attributes := #[] }
def k2m29 : Method := { name := "readyCount", desc := "(I)I", sig := { parameters := [.int], returnType := some .int }, accessFlags := 1, code := some k2c29 }
/-- ReadinessPoller -/
def k2 : Class := { plain "ReadinessPoller" (some 0) with
  accessFlags := 49
  interfaces := #[]
  cf := some (fileOf pool2 8 #[] #[{ accessFlags := 1, nameIndex := 5, descriptorIndex := 96, attributes := #[] }, { accessFlags := 2, nameIndex := 46, descriptorIndex := 47, attributes := #[] }, { accessFlags := 2, nameIndex := 78, descriptorIndex := 79, attributes := #[] }, { accessFlags := 2, nameIndex := 63, descriptorIndex := 64, attributes := #[] }, { accessFlags := 2, nameIndex := 67, descriptorIndex := 64, attributes := #[] }, { accessFlags := 2, nameIndex := 82, descriptorIndex := 79, attributes := #[] }, { accessFlags := 2, nameIndex := 92, descriptorIndex := 79, attributes := #[] }, { accessFlags := 2, nameIndex := 70, descriptorIndex := 71, attributes := #[] }, { accessFlags := 2, nameIndex := 99, descriptorIndex := 71, attributes := #[] }, { accessFlags := 2, nameIndex := 95, descriptorIndex := 96, attributes := #[] }, { accessFlags := 2, nameIndex := 74, descriptorIndex := 75, attributes := #[] }, { accessFlags := 2, nameIndex := 89, descriptorIndex := 75, attributes := #[] }, { accessFlags := 2, nameIndex := 85, descriptorIndex := 86, attributes := #[] }, { accessFlags := 2, nameIndex := 105, descriptorIndex := 71, attributes := #[] }, { accessFlags := 1, nameIndex := 142, descriptorIndex := 143, attributes := #[] }, { accessFlags := 1, nameIndex := 144, descriptorIndex := 71, attributes := #[] }, { accessFlags := 1, nameIndex := 145, descriptorIndex := 64, attributes := #[] }, { accessFlags := 1, nameIndex := 146, descriptorIndex := 64, attributes := #[] }, { accessFlags := 1, nameIndex := 147, descriptorIndex := 47, attributes := #[] }, { accessFlags := 1, nameIndex := 148, descriptorIndex := 47, attributes := #[] }, { accessFlags := 1, nameIndex := 149, descriptorIndex := 71, attributes := #[] }, { accessFlags := 1, nameIndex := 150, descriptorIndex := 71, attributes := #[] }, { accessFlags := 2, nameIndex := 102, descriptorIndex := 75, attributes := #[] }, { accessFlags := 1, nameIndex := 151, descriptorIndex := 64, attributes := #[] }, { accessFlags := 1, nameIndex := 152, descriptorIndex := 64, attributes := #[] }, { accessFlags := 1, nameIndex := 153, descriptorIndex := 64, attributes := #[] }, { accessFlags := 1, nameIndex := 154, descriptorIndex := 64, attributes := #[] }, { accessFlags := 1, nameIndex := 155, descriptorIndex := 71, attributes := #[] }, { accessFlags := 1, nameIndex := 156, descriptorIndex := 71, attributes := #[] }, { accessFlags := 1, nameIndex := 157, descriptorIndex := 64, attributes := #[] }] 49 2 #[] #[{ accessFlags := 25, nameIndex := 106, descriptorIndex := 51, attributes := #[] }, { accessFlags := 25, nameIndex := 109, descriptorIndex := 51, attributes := #[] }, { accessFlags := 25, nameIndex := 111, descriptorIndex := 51, attributes := #[] }, { accessFlags := 25, nameIndex := 113, descriptorIndex := 51, attributes := #[] }, { accessFlags := 25, nameIndex := 115, descriptorIndex := 51, attributes := #[] }, { accessFlags := 25, nameIndex := 117, descriptorIndex := 51, attributes := #[] }, { accessFlags := 25, nameIndex := 119, descriptorIndex := 51, attributes := #[] }, { accessFlags := 25, nameIndex := 121, descriptorIndex := 51, attributes := #[] }, { accessFlags := 25, nameIndex := 123, descriptorIndex := 51, attributes := #[] }, { accessFlags := 25, nameIndex := 125, descriptorIndex := 51, attributes := #[] }, { accessFlags := 25, nameIndex := 127, descriptorIndex := 51, attributes := #[] }, { accessFlags := 25, nameIndex := 129, descriptorIndex := 51, attributes := #[] }, { accessFlags := 25, nameIndex := 131, descriptorIndex := 51, attributes := #[] }, { accessFlags := 25, nameIndex := 133, descriptorIndex := 51, attributes := #[] }, { accessFlags := 25, nameIndex := 135, descriptorIndex := 51, attributes := #[] }, { accessFlags := 25, nameIndex := 137, descriptorIndex := 51, attributes := #[] }, { accessFlags := 2, nameIndex := 50, descriptorIndex := 51, attributes := #[] }, { accessFlags := 2, nameIndex := 54, descriptorIndex := 51, attributes := #[] }, { accessFlags := 2, nameIndex := 57, descriptorIndex := 51, attributes := #[] }, { accessFlags := 2, nameIndex := 11, descriptorIndex := 12, attributes := #[] }, { accessFlags := 2, nameIndex := 15, descriptorIndex := 12, attributes := #[] }, { accessFlags := 2, nameIndex := 18, descriptorIndex := 19, attributes := #[] }, { accessFlags := 2, nameIndex := 22, descriptorIndex := 19, attributes := #[] }, { accessFlags := 2, nameIndex := 25, descriptorIndex := 19, attributes := #[] }, { accessFlags := 2, nameIndex := 28, descriptorIndex := 12, attributes := #[] }, { accessFlags := 2, nameIndex := 31, descriptorIndex := 19, attributes := #[] }, { accessFlags := 2, nameIndex := 34, descriptorIndex := 12, attributes := #[] }, { accessFlags := 2, nameIndex := 37, descriptorIndex := 19, attributes := #[] }, { accessFlags := 2, nameIndex := 40, descriptorIndex := 19, attributes := #[] }, { accessFlags := 2, nameIndex := 43, descriptorIndex := 19, attributes := #[] }, { accessFlags := 2, nameIndex := 60, descriptorIndex := 51, attributes := #[] }])
  fields := #[{ name := "IN", type := .int, accessFlags := 25, slot := 0, constantValue := 0 }, { name := "OUT", type := .int, accessFlags := 25, slot := 1, constantValue := 0 }, { name := "HUP", type := .int, accessFlags := 25, slot := 2, constantValue := 0 }, { name := "ERR", type := .int, accessFlags := 25, slot := 3, constantValue := 0 }, { name := "EDGE", type := .int, accessFlags := 25, slot := 4, constantValue := 0 }, { name := "ONESHOT", type := .int, accessFlags := 25, slot := 5, constantValue := 0 }, { name := "DISABLED", type := .int, accessFlags := 25, slot := 6, constantValue := 0 }, { name := "OK", type := .int, accessFlags := 25, slot := 7, constantValue := 0 }, { name := "ERR_BADF", type := .int, accessFlags := 25, slot := 8, constantValue := 0 }, { name := "ERR_AGAIN", type := .int, accessFlags := 25, slot := 9, constantValue := 0 }, { name := "EOF", type := .int, accessFlags := 25, slot := 10, constantValue := 0 }, { name := "ERR_PIPE", type := .int, accessFlags := 25, slot := 11, constantValue := 0 }, { name := "ERR_EXIST", type := .int, accessFlags := 25, slot := 12, constantValue := 0 }, { name := "ERR_INVAL", type := .int, accessFlags := 25, slot := 13, constantValue := 0 }, { name := "ERR_NOENT", type := .int, accessFlags := 25, slot := 14, constantValue := 0 }, { name := "ERR_NOPIPE", type := .int, accessFlags := 25, slot := 15, constantValue := 0 }, { name := "nPipes", type := .int, accessFlags := 2, slot := 0, constantValue := 0 }, { name := "cap", type := .int, accessFlags := 2, slot := 1, constantValue := 0 }, { name := "nPolls", type := .int, accessFlags := 2, slot := 2, constantValue := 0 }, { name := "readOpen", type := (.array .boolean), accessFlags := 2, slot := 3, constantValue := 0 }, { name := "writeOpen", type := (.array .boolean), accessFlags := 2, slot := 4, constantValue := 0 }, { name := "buf", type := (.array .int), accessFlags := 2, slot := 5, constantValue := 0 }, { name := "head", type := (.array .int), accessFlags := 2, slot := 6, constantValue := 0 }, { name := "count", type := (.array .int), accessFlags := 2, slot := 7, constantValue := 0 }, { name := "regged", type := (.array .boolean), accessFlags := 2, slot := 8, constantValue := 0 }, { name := "word", type := (.array .int), accessFlags := 2, slot := 9, constantValue := 0 }, { name := "enabled", type := (.array .boolean), accessFlags := 2, slot := 10, constantValue := 0 }, { name := "pend", type := (.array .int), accessFlags := 2, slot := 11, constantValue := 0 }, { name := "resFd", type := (.array .int), accessFlags := 2, slot := 12, constantValue := 0 }, { name := "resMask", type := (.array .int), accessFlags := 2, slot := 13, constantValue := 0 }, { name := "resN", type := .int, accessFlags := 2, slot := 14, constantValue := 0 }]
  methods := #[k2m0, k2m1, k2m2, k2m3, k2m4, k2m5, k2m6, k2m7, k2m8, k2m9, k2m10, k2m11, k2m12, k2m13, k2m14, k2m15, k2m16, k2m17, k2m18, k2m19, k2m20, k2m21, k2m22, k2m23, k2m24, k2m25, k2m26, k2m27, k2m28, k2m29]
  instanceTypes := #[.int, .int, .int, (.array .boolean), (.array .boolean), (.array .int), (.array .int), (.array .int), (.array .boolean), (.array .int), (.array .boolean), (.array .int), (.array .int), (.array .int), .int]
  staticTypes := #[.int, .int, .int, .int, .int, .int, .int, .int, .int, .int, .int, .int, .int, .int, .int, .int]
  resolved := Array.replicate 160 none
  statics := none }

def pool3 : Array CpInfo := pool [(1, u "java/lang/Cloneable"), (0, .class_ 1), (0, u "java/lang/Object"), (0, .class_ 3)] 3

/-- java/lang/Cloneable -/
def k3 : Class := { plain "java/lang/Cloneable" (some 0) with
  accessFlags := 1537
  interfaces := #[]
  cf := some (fileOf pool3 2 #[] #[] 1537 4 #[] #[])
  fields := #[]
  methods := #[]
  instanceTypes := #[]
  staticTypes := #[]
  resolved := Array.replicate 8 none
  statics := none }

def pool4 : Array CpInfo := pool [(1, u "java/io/Serializable"), (0, .class_ 1), (0, u "java/lang/Object"), (0, .class_ 3)] 3

/-- java/io/Serializable -/
def k4 : Class := { plain "java/io/Serializable" (some 0) with
  accessFlags := 1537
  interfaces := #[]
  cf := some (fileOf pool4 2 #[] #[] 1537 4 #[] #[])
  fields := #[]
  methods := #[]
  instanceTypes := #[]
  staticTypes := #[]
  resolved := Array.replicate 8 none
  statics := none }

/-- the primitive boolean -/
def k5 : Class := { plain "boolean" none with kind := .primitive 'Z', accessFlags := 0x411 }
/-- [Z -/
def k6 : Class := { plain "[Z" (some 0) with kind := .array 5 .boolean, interfaces := #[3, 4], accessFlags := 1041 }

/-- the primitive byte -/
def k7 : Class := { plain "byte" none with kind := .primitive 'B', accessFlags := 0x411 }
/-- [B -/
def k8 : Class := { plain "[B" (some 0) with kind := .array 7 .byte, interfaces := #[3, 4], accessFlags := 1041 }

/-- the primitive int -/
def k9 : Class := { plain "int" none with kind := .primitive 'I', accessFlags := 0x411 }
/-- [I -/
def k10 : Class := { plain "[I" (some 0) with kind := .array 9 .int, interfaces := #[3, 4], accessFlags := 1041 }

def heap : Heap := #[{ cls := 10, slots := #[.int 1, .int 2, .int 3], vm := .none }]
def classes : Array Class := #[k0, k1, k2, k3, k4, k5, k6, k7, k8, k9, k10]
def interned : List (Array UInt16 × Addr) := []
def slotsUsed : Nat := 3
def theMethod : MethodId := ⟨1, 1⟩
def args0 : Array Value := #[.ref 0]
def aboutOver (below : List Frame) : State where
  vm := { classes := classes, interned := interned.toArray }
  heap := heap
  slotsUsed := slotsUsed
  threads := #[{ frames := .invoking theMethod args0 :: below }]
def below0 : List Frame := [.native { method := ⟨0, 0⟩, args := #[] }]
def about1 : State := aboutOver below0
def p0 : Program := .bare "" "" ""
def e0 : Env := launch0.env 0 0 0
theorem w_frames : about1.frames = Frame.invoking theMethod args0 :: below0 := rfl
set_option maxRecDepth 65536 in
theorem w_args : argsFit about1.vm theMethod args0 = true := by decide +kernel
set_option maxRecDepth 65536 in
theorem w_heap : heapFits about1 = true := by decide +kernel
set_option maxRecDepth 65536 in
theorem w_runnable : about1.curStatus? = some .runnable := by decide +kernel
set_option maxRecDepth 65536 in
theorem w_alone : about1.alone = true := by decide +kernel
set_option maxRecDepth 65536 in
theorem w_named : about1.methodNamed? x = some theMethod := by decide +kernel
set_option maxRecDepth 65536 in
theorem w_hears : about1.hears theMethod below0 = true := by decide +kernel
set_option maxRecDepth 65536 in
theorem w_ripe : about1.ripe theMethod args0 below0 = true := by decide +kernel
theorem w_running : about1.status = .running := rfl
set_option maxRecDepth 65536 in
theorem w_room : about1.hasRoom e0.platform room_1 = true :=
  launch0.hasRoom_least _ room_1 (by decide +kernel) (by decide +kernel) (by decide +kernel) (by decide +kernel) (by decide +kernel) (by decide +kernel)
theorem allAtoms_all (ts : List Jvm.Cond) (a : Array Jvm.Value) (st : Jvm.State) : (allAtoms ts).before a st = ts.all (fun c => c.before a st) := by
  induction ts with
  | nil => rfl
  | cons c t ih =>
    show (Jvm.Cond.and c (allAtoms t)).before a st = _
    rw [Jvm.Cond.before_and, ih, List.all_cons]
def words1 : List Jvm.Cond := Jvm.Cond.code x code maxLocals ret :: tables_1
/-- a 'code' word, met by the world's own term for the bytes: nothing is compared byte by byte -/
theorem code_word {y : MethodName} {bytes : ByteArray} {mx : Nat} {rt : Option FieldType} {a : Array Value} {s : State} {m : MethodId} {meth : Method} {c : Code} (h1 : s.methodNamed? y = some m) (h2 : s.vm.method? m = some meth) (h3 : meth.code = some c) (h4 : c.code = bytes)
    (h5 : (c.maxLocals == mx && c.exceptionTable.isEmpty && decide (c.maxStack ≤ mostOperands) && decide (meth.sig.returnType = rt) && !meth.locks && decide (parseMethodDescriptor y.desc = some meth.sig)) = true) : (Jvm.Cond.code y bytes mx rt).before a s = true := by
  simp only [Bool.and_eq_true, beq_iff_eq, Bool.not_eq_true', decide_eq_true_eq] at h5
  obtain ⟨⟨⟨⟨⟨g1, g2⟩, g3⟩, g4⟩, g5⟩, g6⟩ := h5
  simp [Cond.before, Cond.holds, Cond.value, h1, h2, h3, h4, g1, g2, g3, g4, g5, g6]
def isCode : Jvm.Cond → Bool
  | .code _ _ _ _ => true
  | _ => false
theorem all_split {L : List Jvm.Cond} {P : Jvm.Cond → Bool} (h1 : L.all (fun c => isCode c || P c) = true) (h2 : ∀ c ∈ L.filter isCode, P c = true) : L.all P = true := by
  refine List.all_eq_true.mpr fun c hc => ?_
  have h := List.all_eq_true.mp h1 c hc
  rcases Bool.eq_false_or_eq_true (isCode c) with hi | hi
  · exact h2 c (List.mem_filter.mpr ⟨hc, hi⟩)
  · simpa [hi] using h
set_option maxRecDepth 65536 in
theorem w_c0 : (Jvm.Cond.code x code maxLocals ret).before args0 about1 = true := code_word (m := ⟨1, 1⟩) (meth := k1m1) (c := k1c1) (by decide +kernel) rfl rfl rfl (by decide +kernel)
set_option maxRecDepth 65536 in
theorem w_c1 : (Jvm.Cond.code ({ cls := "ReadinessPoller", name := "<init>", desc := "(III)V" } : Jvm.MethodName) prog_1_method_1_code (4 : Nat) (Option.none : Option Jvm.ClassFile.FieldType)).before args0 about1 = true := code_word (m := ⟨2, 0⟩) (meth := k2m0) (c := k2c0) (by decide +kernel) rfl rfl rfl (by decide +kernel)
set_option maxRecDepth 65536 in
theorem w_c2 : (Jvm.Cond.code ({ cls := "java/lang/Object", name := "<init>", desc := "()V" } : Jvm.MethodName) object_method_1_code (1 : Nat) (Option.none : Option Jvm.ClassFile.FieldType)).before args0 about1 = true := code_word (m := ⟨0, 0⟩) (meth := k0m0) (c := k0c0) (by decide +kernel) rfl rfl rfl (by decide +kernel)
set_option maxRecDepth 65536 in
theorem w_c3 : (Jvm.Cond.code ({ cls := "ReadinessPoller", name := "clamp", desc := "(III)I" } : Jvm.MethodName) prog_1_method_2_code (4 : Nat) (Option.some Jvm.ClassFile.FieldType.int)).before args0 about1 = true := code_word (m := ⟨2, 1⟩) (meth := k2m1) (c := k2c1) (by decide +kernel) rfl rfl rfl (by decide +kernel)
set_option maxRecDepth 65536 in
theorem w_c4 : (Jvm.Cond.code ({ cls := "ReadinessPollerL7", name := "call", desc := "(LReadinessPoller;IIIIII)I" } : Jvm.MethodName) method_3_code (7 : Nat) (Option.some Jvm.ClassFile.FieldType.int)).before args0 about1 = true := code_word (m := ⟨1, 2⟩) (meth := k1m2) (c := k1c2) (by decide +kernel) rfl rfl rfl (by decide +kernel)
set_option maxRecDepth 65536 in
theorem w_c5 : (Jvm.Cond.code ({ cls := "ReadinessPoller", name := "closeFd", desc := "(I)I" } : Jvm.MethodName) prog_1_method_18_code (5 : Nat) (Option.some Jvm.ClassFile.FieldType.int)).before args0 about1 = true := code_word (m := ⟨2, 17⟩) (meth := k2m17) (c := k2c17) (by decide +kernel) rfl rfl rfl (by decide +kernel)
set_option maxRecDepth 65536 in
theorem w_c6 : (Jvm.Cond.code ({ cls := "ReadinessPoller", name := "isOpen", desc := "(I)Z" } : Jvm.MethodName) prog_1_method_3_code (3 : Nat) (Option.some Jvm.ClassFile.FieldType.boolean)).before args0 about1 = true := code_word (m := ⟨2, 2⟩) (meth := k2m2) (c := k2c2) (by decide +kernel) rfl rfl rfl (by decide +kernel)
set_option maxRecDepth 65536 in
theorem w_c7 : (Jvm.Cond.code ({ cls := "ReadinessPollerL7", name := "same", desc := "(LReadinessPoller;LReadinessPoller;)Z" } : Jvm.MethodName) method_4_code (3 : Nat) (Option.some Jvm.ClassFile.FieldType.boolean)).before args0 about1 = true := code_word (m := ⟨1, 3⟩) (meth := k1m3) (c := k1c3) (by decide +kernel) rfl rfl rfl (by decide +kernel)
set_option maxRecDepth 65536 in
theorem w_c8 : (Jvm.Cond.code ({ cls := "ReadinessPoller", name := "pipeBytes", desc := "(I)I" } : Jvm.MethodName) prog_1_method_26_code (2 : Nat) (Option.some Jvm.ClassFile.FieldType.int)).before args0 about1 = true := code_word (m := ⟨2, 25⟩) (meth := k2m25) (c := k2c25) (by decide +kernel) rfl rfl rfl (by decide +kernel)
set_option maxRecDepth 65536 in
theorem w_c9 : (Jvm.Cond.code ({ cls := "ReadinessPoller", name := "fdReadiness", desc := "(I)I" } : Jvm.MethodName) prog_1_method_27_code (2 : Nat) (Option.some Jvm.ClassFile.FieldType.int)).before args0 about1 = true := code_word (m := ⟨2, 26⟩) (meth := k2m26) (c := k2c26) (by decide +kernel) rfl rfl rfl (by decide +kernel)
set_option maxRecDepth 65536 in
theorem w_c10 : (Jvm.Cond.code ({ cls := "ReadinessPoller", name := "readyCount", desc := "(I)I" } : Jvm.MethodName) prog_1_method_30_code (6 : Nat) (Option.some Jvm.ClassFile.FieldType.int)).before args0 about1 = true := code_word (m := ⟨2, 29⟩) (meth := k2m29) (c := k2c29) (by decide +kernel) rfl rfl rfl (by decide +kernel)
set_option maxRecDepth 65536 in
theorem w_c11 : (Jvm.Cond.code ({ cls := "ReadinessPoller", name := "validQ", desc := "(I)Z" } : Jvm.MethodName) prog_1_method_6_code (2 : Nat) (Option.some Jvm.ClassFile.FieldType.boolean)).before args0 about1 = true := code_word (m := ⟨2, 5⟩) (meth := k2m5) (c := k2c5) (by decide +kernel) rfl rfl rfl (by decide +kernel)
set_option maxRecDepth 65536 in
theorem w_c12 : (Jvm.Cond.code ({ cls := "ReadinessPoller", name := "eventFd", desc := "(I)I" } : Jvm.MethodName) prog_1_method_24_code (2 : Nat) (Option.some Jvm.ClassFile.FieldType.int)).before args0 about1 = true := code_word (m := ⟨2, 23⟩) (meth := k2m23) (c := k2c23) (by decide +kernel) rfl rfl rfl (by decide +kernel)
set_option maxRecDepth 65536 in
theorem w_c13 : (Jvm.Cond.code ({ cls := "ReadinessPoller", name := "eventMask", desc := "(I)I" } : Jvm.MethodName) prog_1_method_25_code (2 : Nat) (Option.some Jvm.ClassFile.FieldType.int)).before args0 about1 = true := code_word (m := ⟨2, 24⟩) (meth := k2m24) (c := k2c24) (by decide +kernel) rfl rfl rfl (by decide +kernel)
set_option maxRecDepth 65536 in
theorem w_c14 : (Jvm.Cond.code ({ cls := "ReadinessPoller", name := "slot", desc := "(II)I" } : Jvm.MethodName) prog_1_method_8_code (3 : Nat) (Option.some Jvm.ClassFile.FieldType.int)).before args0 about1 = true := code_word (m := ⟨2, 7⟩) (meth := k2m7) (c := k2c7) (by decide +kernel) rfl rfl rfl (by decide +kernel)
set_option maxRecDepth 65536 in
theorem w_c15 : (Jvm.Cond.code ({ cls := "ReadinessPoller", name := "regInfo", desc := "(II)I" } : Jvm.MethodName) prog_1_method_28_code (5 : Nat) (Option.some Jvm.ClassFile.FieldType.int)).before args0 about1 = true := code_word (m := ⟨2, 27⟩) (meth := k2m27) (c := k2c27) (by decide +kernel) rfl rfl rfl (by decide +kernel)
set_option maxRecDepth 65536 in
theorem w_c16 : (Jvm.Cond.code ({ cls := "ReadinessPoller", name := "lookup", desc := "(II)I" } : Jvm.MethodName) prog_1_method_14_code (4 : Nat) (Option.some Jvm.ClassFile.FieldType.int)).before args0 about1 = true := code_word (m := ⟨2, 13⟩) (meth := k2m13) (c := k2c13) (by decide +kernel) rfl rfl rfl (by decide +kernel)
set_option maxRecDepth 65536 in
theorem w_c17 : (Jvm.Cond.code ({ cls := "ReadinessPoller", name := "peekReady", desc := "(II)I" } : Jvm.MethodName) prog_1_method_29_code (4 : Nat) (Option.some Jvm.ClassFile.FieldType.int)).before args0 about1 = true := code_word (m := ⟨2, 28⟩) (meth := k2m28) (c := k2c28) (by decide +kernel) rfl rfl rfl (by decide +kernel)
set_option maxRecDepth 65536 in
theorem w_c18 : (Jvm.Cond.code ({ cls := "ReadinessPoller", name := "write", desc := "(II)I" } : Jvm.MethodName) prog_1_method_16_code (7 : Nat) (Option.some Jvm.ClassFile.FieldType.int)).before args0 about1 = true := code_word (m := ⟨2, 15⟩) (meth := k2m15) (c := k2c15) (by decide +kernel) rfl rfl rfl (by decide +kernel)
set_option maxRecDepth 65536 in
theorem w_c19 : (Jvm.Cond.code ({ cls := "ReadinessPoller", name := "createPipe", desc := "()I" } : Jvm.MethodName) prog_1_method_15_code (2 : Nat) (Option.some Jvm.ClassFile.FieldType.int)).before args0 about1 = true := code_word (m := ⟨2, 14⟩) (meth := k2m14) (c := k2c14) (by decide +kernel) rfl rfl rfl (by decide +kernel)
set_option maxRecDepth 65536 in
theorem w_c20 : (Jvm.Cond.code ({ cls := "ReadinessPoller", name := "rawReady", desc := "(I)I" } : Jvm.MethodName) prog_1_method_4_code (4 : Nat) (Option.some Jvm.ClassFile.FieldType.int)).before args0 about1 = true := code_word (m := ⟨2, 3⟩) (meth := k2m3) (c := k2c3) (by decide +kernel) rfl rfl rfl (by decide +kernel)
set_option maxRecDepth 65536 in
theorem w_c21 : (Jvm.Cond.code ({ cls := "ReadinessPoller", name := "removeRegs", desc := "(I)V" } : Jvm.MethodName) prog_1_method_12_code (3 : Nat) (Option.none : Option Jvm.ClassFile.FieldType)).before args0 about1 = true := code_word (m := ⟨2, 11⟩) (meth := k2m11) (c := k2c11) (by decide +kernel) rfl rfl rfl (by decide +kernel)
set_option maxRecDepth 65536 in
theorem w_c22 : (Jvm.Cond.code ({ cls := "ReadinessPoller", name := "clearReg", desc := "(I)V" } : Jvm.MethodName) prog_1_method_11_code (2 : Nat) (Option.none : Option Jvm.ClassFile.FieldType)).before args0 about1 = true := code_word (m := ⟨2, 10⟩) (meth := k2m10) (c := k2c10) (by decide +kernel) rfl rfl rfl (by decide +kernel)
set_option maxRecDepth 65536 in
theorem w_c23 : (Jvm.Cond.code ({ cls := "ReadinessPoller", name := "edgeUpdate", desc := "(II)V" } : Jvm.MethodName) prog_1_method_13_code (7 : Nat) (Option.none : Option Jvm.ClassFile.FieldType)).before args0 about1 = true := code_word (m := ⟨2, 12⟩) (meth := k2m12) (c := k2c12) (by decide +kernel) rfl rfl rfl (by decide +kernel)
set_option maxRecDepth 65536 in
theorem w_c24 : (Jvm.Cond.code ({ cls := "ReadinessPoller", name := "read", desc := "(I)I" } : Jvm.MethodName) prog_1_method_17_code (6 : Nat) (Option.some Jvm.ClassFile.FieldType.int)).before args0 about1 = true := code_word (m := ⟨2, 16⟩) (meth := k2m16) (c := k2c16) (by decide +kernel) rfl rfl rfl (by decide +kernel)
set_option maxRecDepth 65536 in
theorem w_c25 : (Jvm.Cond.code ({ cls := "ReadinessPoller", name := "ctlDel", desc := "(II)I" } : Jvm.MethodName) prog_1_method_21_code (4 : Nat) (Option.some Jvm.ClassFile.FieldType.int)).before args0 about1 = true := code_word (m := ⟨2, 20⟩) (meth := k2m20) (c := k2c20) (by decide +kernel) rfl rfl rfl (by decide +kernel)
set_option maxRecDepth 65536 in
theorem w_c26 : (Jvm.Cond.code ({ cls := "ReadinessPoller", name := "wait", desc := "(II)I" } : Jvm.MethodName) prog_1_method_22_code (9 : Nat) (Option.some Jvm.ClassFile.FieldType.int)).before args0 about1 = true := code_word (m := ⟨2, 21⟩) (meth := k2m21) (c := k2c21) (by decide +kernel) rfl rfl rfl (by decide +kernel)
set_option maxRecDepth 65536 in
theorem w_c27 : (Jvm.Cond.code ({ cls := "ReadinessPoller", name := "ctlMod", desc := "(III)I" } : Jvm.MethodName) prog_1_method_20_code (5 : Nat) (Option.some Jvm.ClassFile.FieldType.int)).before args0 about1 = true := code_word (m := ⟨2, 19⟩) (meth := k2m19) (c := k2c19) (by decide +kernel) rfl rfl rfl (by decide +kernel)
set_option maxRecDepth 65536 in
theorem w_c28 : (Jvm.Cond.code ({ cls := "ReadinessPoller", name := "ctlAdd", desc := "(III)I" } : Jvm.MethodName) prog_1_method_19_code (5 : Nat) (Option.some Jvm.ClassFile.FieldType.int)).before args0 about1 = true := code_word (m := ⟨2, 18⟩) (meth := k2m18) (c := k2c18) (by decide +kernel) rfl rfl rfl (by decide +kernel)
set_option maxRecDepth 65536 in
theorem w_c29 : (Jvm.Cond.code ({ cls := "ReadinessPoller", name := "validWord", desc := "(I)Z" } : Jvm.MethodName) prog_1_method_7_code (2 : Nat) (Option.some Jvm.ClassFile.FieldType.boolean)).before args0 about1 = true := code_word (m := ⟨2, 6⟩) (meth := k2m6) (c := k2c6) (by decide +kernel) rfl rfl rfl (by decide +kernel)
set_option maxRecDepth 65536 in
theorem w_c30 : (Jvm.Cond.code ({ cls := "ReadinessPoller", name := "arm", desc := "(III)V" } : Jvm.MethodName) prog_1_method_10_code (4 : Nat) (Option.none : Option Jvm.ClassFile.FieldType)).before args0 about1 = true := code_word (m := ⟨2, 9⟩) (meth := k2m9) (c := k2c9) (by decide +kernel) rfl rfl rfl (by decide +kernel)
set_option maxRecDepth 65536 in
theorem w_c31 : (Jvm.Cond.code ({ cls := "ReadinessPoller", name := "peek", desc := "(II)I" } : Jvm.MethodName) prog_1_method_9_code (3 : Nat) (Option.some Jvm.ClassFile.FieldType.int)).before args0 about1 = true := code_word (m := ⟨2, 8⟩) (meth := k2m8) (c := k2c8) (by decide +kernel) rfl rfl rfl (by decide +kernel)
set_option maxRecDepth 65536 in
theorem w_c32 : (Jvm.Cond.code ({ cls := "ReadinessPoller", name := "watched", desc := "(I)I" } : Jvm.MethodName) prog_1_method_5_code (2 : Nat) (Option.some Jvm.ClassFile.FieldType.int)).before args0 about1 = true := code_word (m := ⟨2, 4⟩) (meth := k2m4) (c := k2c4) (by decide +kernel) rfl rfl rfl (by decide +kernel)
set_option maxRecDepth 65536 in
theorem w_c33 : (Jvm.Cond.code ({ cls := "ReadinessPoller", name := "consume", desc := "(I)V" } : Jvm.MethodName) prog_1_method_23_code (2 : Nat) (Option.none : Option Jvm.ClassFile.FieldType)).before args0 about1 = true := code_word (m := ⟨2, 22⟩) (meth := k2m22) (c := k2c22) (by decide +kernel) rfl rfl rfl (by decide +kernel)
def codes1 : List Jvm.Cond := [Jvm.Cond.code x code maxLocals ret, Jvm.Cond.code ({ cls := "ReadinessPoller", name := "<init>", desc := "(III)V" } : Jvm.MethodName) prog_1_method_1_code (4 : Nat) (Option.none : Option Jvm.ClassFile.FieldType), Jvm.Cond.code ({ cls := "java/lang/Object", name := "<init>", desc := "()V" } : Jvm.MethodName) object_method_1_code (1 : Nat) (Option.none : Option Jvm.ClassFile.FieldType), Jvm.Cond.code ({ cls := "ReadinessPoller", name := "clamp", desc := "(III)I" } : Jvm.MethodName) prog_1_method_2_code (4 : Nat) (Option.some Jvm.ClassFile.FieldType.int), Jvm.Cond.code ({ cls := "ReadinessPollerL7", name := "call", desc := "(LReadinessPoller;IIIIII)I" } : Jvm.MethodName) method_3_code (7 : Nat) (Option.some Jvm.ClassFile.FieldType.int), Jvm.Cond.code ({ cls := "ReadinessPoller", name := "closeFd", desc := "(I)I" } : Jvm.MethodName) prog_1_method_18_code (5 : Nat) (Option.some Jvm.ClassFile.FieldType.int), Jvm.Cond.code ({ cls := "ReadinessPoller", name := "isOpen", desc := "(I)Z" } : Jvm.MethodName) prog_1_method_3_code (3 : Nat) (Option.some Jvm.ClassFile.FieldType.boolean), Jvm.Cond.code ({ cls := "ReadinessPollerL7", name := "same", desc := "(LReadinessPoller;LReadinessPoller;)Z" } : Jvm.MethodName) method_4_code (3 : Nat) (Option.some Jvm.ClassFile.FieldType.boolean), Jvm.Cond.code ({ cls := "ReadinessPoller", name := "pipeBytes", desc := "(I)I" } : Jvm.MethodName) prog_1_method_26_code (2 : Nat) (Option.some Jvm.ClassFile.FieldType.int), Jvm.Cond.code ({ cls := "ReadinessPoller", name := "fdReadiness", desc := "(I)I" } : Jvm.MethodName) prog_1_method_27_code (2 : Nat) (Option.some Jvm.ClassFile.FieldType.int), Jvm.Cond.code ({ cls := "ReadinessPoller", name := "readyCount", desc := "(I)I" } : Jvm.MethodName) prog_1_method_30_code (6 : Nat) (Option.some Jvm.ClassFile.FieldType.int), Jvm.Cond.code ({ cls := "ReadinessPoller", name := "validQ", desc := "(I)Z" } : Jvm.MethodName) prog_1_method_6_code (2 : Nat) (Option.some Jvm.ClassFile.FieldType.boolean), Jvm.Cond.code ({ cls := "ReadinessPoller", name := "eventFd", desc := "(I)I" } : Jvm.MethodName) prog_1_method_24_code (2 : Nat) (Option.some Jvm.ClassFile.FieldType.int), Jvm.Cond.code ({ cls := "ReadinessPoller", name := "eventMask", desc := "(I)I" } : Jvm.MethodName) prog_1_method_25_code (2 : Nat) (Option.some Jvm.ClassFile.FieldType.int), Jvm.Cond.code ({ cls := "ReadinessPoller", name := "slot", desc := "(II)I" } : Jvm.MethodName) prog_1_method_8_code (3 : Nat) (Option.some Jvm.ClassFile.FieldType.int), Jvm.Cond.code ({ cls := "ReadinessPoller", name := "regInfo", desc := "(II)I" } : Jvm.MethodName) prog_1_method_28_code (5 : Nat) (Option.some Jvm.ClassFile.FieldType.int), Jvm.Cond.code ({ cls := "ReadinessPoller", name := "lookup", desc := "(II)I" } : Jvm.MethodName) prog_1_method_14_code (4 : Nat) (Option.some Jvm.ClassFile.FieldType.int), Jvm.Cond.code ({ cls := "ReadinessPoller", name := "peekReady", desc := "(II)I" } : Jvm.MethodName) prog_1_method_29_code (4 : Nat) (Option.some Jvm.ClassFile.FieldType.int), Jvm.Cond.code ({ cls := "ReadinessPoller", name := "write", desc := "(II)I" } : Jvm.MethodName) prog_1_method_16_code (7 : Nat) (Option.some Jvm.ClassFile.FieldType.int), Jvm.Cond.code ({ cls := "ReadinessPoller", name := "createPipe", desc := "()I" } : Jvm.MethodName) prog_1_method_15_code (2 : Nat) (Option.some Jvm.ClassFile.FieldType.int), Jvm.Cond.code ({ cls := "ReadinessPoller", name := "rawReady", desc := "(I)I" } : Jvm.MethodName) prog_1_method_4_code (4 : Nat) (Option.some Jvm.ClassFile.FieldType.int), Jvm.Cond.code ({ cls := "ReadinessPoller", name := "removeRegs", desc := "(I)V" } : Jvm.MethodName) prog_1_method_12_code (3 : Nat) (Option.none : Option Jvm.ClassFile.FieldType), Jvm.Cond.code ({ cls := "ReadinessPoller", name := "clearReg", desc := "(I)V" } : Jvm.MethodName) prog_1_method_11_code (2 : Nat) (Option.none : Option Jvm.ClassFile.FieldType), Jvm.Cond.code ({ cls := "ReadinessPoller", name := "edgeUpdate", desc := "(II)V" } : Jvm.MethodName) prog_1_method_13_code (7 : Nat) (Option.none : Option Jvm.ClassFile.FieldType), Jvm.Cond.code ({ cls := "ReadinessPoller", name := "read", desc := "(I)I" } : Jvm.MethodName) prog_1_method_17_code (6 : Nat) (Option.some Jvm.ClassFile.FieldType.int), Jvm.Cond.code ({ cls := "ReadinessPoller", name := "ctlDel", desc := "(II)I" } : Jvm.MethodName) prog_1_method_21_code (4 : Nat) (Option.some Jvm.ClassFile.FieldType.int), Jvm.Cond.code ({ cls := "ReadinessPoller", name := "wait", desc := "(II)I" } : Jvm.MethodName) prog_1_method_22_code (9 : Nat) (Option.some Jvm.ClassFile.FieldType.int), Jvm.Cond.code ({ cls := "ReadinessPoller", name := "ctlMod", desc := "(III)I" } : Jvm.MethodName) prog_1_method_20_code (5 : Nat) (Option.some Jvm.ClassFile.FieldType.int), Jvm.Cond.code ({ cls := "ReadinessPoller", name := "ctlAdd", desc := "(III)I" } : Jvm.MethodName) prog_1_method_19_code (5 : Nat) (Option.some Jvm.ClassFile.FieldType.int), Jvm.Cond.code ({ cls := "ReadinessPoller", name := "validWord", desc := "(I)Z" } : Jvm.MethodName) prog_1_method_7_code (2 : Nat) (Option.some Jvm.ClassFile.FieldType.boolean), Jvm.Cond.code ({ cls := "ReadinessPoller", name := "arm", desc := "(III)V" } : Jvm.MethodName) prog_1_method_10_code (4 : Nat) (Option.none : Option Jvm.ClassFile.FieldType), Jvm.Cond.code ({ cls := "ReadinessPoller", name := "peek", desc := "(II)I" } : Jvm.MethodName) prog_1_method_9_code (3 : Nat) (Option.some Jvm.ClassFile.FieldType.int), Jvm.Cond.code ({ cls := "ReadinessPoller", name := "watched", desc := "(I)I" } : Jvm.MethodName) prog_1_method_5_code (2 : Nat) (Option.some Jvm.ClassFile.FieldType.int), Jvm.Cond.code ({ cls := "ReadinessPoller", name := "consume", desc := "(I)V" } : Jvm.MethodName) prog_1_method_23_code (2 : Nat) (Option.none : Option Jvm.ClassFile.FieldType)]
set_option maxRecDepth 65536 in
theorem codes_eq : words1.filter isCode = codes1 := rfl
theorem w_codes : ∀ c ∈ words1.filter isCode, c.before args0 about1 = true := by
  rw [codes_eq]
  intro c hc
  simp only [codes1, List.mem_cons, List.not_mem_nil, or_false] at hc
  rcases hc with rfl | rfl | rfl | rfl | rfl | rfl | rfl | rfl | rfl | rfl | rfl | rfl | rfl | rfl | rfl | rfl | rfl | rfl | rfl | rfl | rfl | rfl | rfl | rfl | rfl | rfl | rfl | rfl | rfl | rfl | rfl | rfl | rfl | rfl
  · exact w_c0
  · exact w_c1
  · exact w_c2
  · exact w_c3
  · exact w_c4
  · exact w_c5
  · exact w_c6
  · exact w_c7
  · exact w_c8
  · exact w_c9
  · exact w_c10
  · exact w_c11
  · exact w_c12
  · exact w_c13
  · exact w_c14
  · exact w_c15
  · exact w_c16
  · exact w_c17
  · exact w_c18
  · exact w_c19
  · exact w_c20
  · exact w_c21
  · exact w_c22
  · exact w_c23
  · exact w_c24
  · exact w_c25
  · exact w_c26
  · exact w_c27
  · exact w_c28
  · exact w_c29
  · exact w_c30
  · exact w_c31
  · exact w_c32
  · exact w_c33
set_option maxRecDepth 65536 in
theorem w_t1 : (words1.take 24).all (fun c => isCode c || c.before args0 about1) = true := by decide +kernel
set_option maxRecDepth 65536 in
theorem w_t2 : ((words1.drop 24).take 24).all (fun c => isCode c || c.before args0 about1) = true := by decide +kernel
set_option maxRecDepth 65536 in
theorem w_t3 : (((words1.drop 24).drop 24).take 24).all (fun c => isCode c || c.before args0 about1) = true := by decide +kernel
set_option maxRecDepth 65536 in
theorem w_t4 : ((((words1.drop 24).drop 24).drop 24).take 24).all (fun c => isCode c || c.before args0 about1) = true := by decide +kernel
set_option maxRecDepth 65536 in
theorem w_t5 : (((((words1.drop 24).drop 24).drop 24).drop 24).take 24).all (fun c => isCode c || c.before args0 about1) = true := by decide +kernel
set_option maxRecDepth 65536 in
theorem w_t6 : ((((((words1.drop 24).drop 24).drop 24).drop 24).drop 24).take 24).all (fun c => isCode c || c.before args0 about1) = true := by decide +kernel
set_option maxRecDepth 65536 in
theorem w_t7 : (((((((words1.drop 24).drop 24).drop 24).drop 24).drop 24).drop 24).take 24).all (fun c => isCode c || c.before args0 about1) = true := by decide +kernel
set_option maxRecDepth 65536 in
theorem w_t8 : (((((((words1.drop 24).drop 24).drop 24).drop 24).drop 24).drop 24).drop 24).all (fun c => isCode c || c.before args0 about1) = true := by decide +kernel
theorem w_tables : (allAtoms (Jvm.Cond.code x code maxLocals ret :: tables_1)).before args0 about1 = true := by
  rw [allAtoms_all]
  show words1.all (fun c => c.before args0 about1) = true
  refine all_split ?_ w_codes
  rw [← List.take_append_drop 24 words1, List.all_append, w_t1, ← List.take_append_drop 24 (words1.drop 24), List.all_append, w_t2, ← List.take_append_drop 24 ((words1.drop 24).drop 24), List.all_append, w_t3, ← List.take_append_drop 24 (((words1.drop 24).drop 24).drop 24), List.all_append, w_t4, ← List.take_append_drop 24 ((((words1.drop 24).drop 24).drop 24).drop 24), List.all_append, w_t5, ← List.take_append_drop 24 (((((words1.drop 24).drop 24).drop 24).drop 24).drop 24), List.all_append, w_t6, ← List.take_append_drop 24 ((((((words1.drop 24).drop 24).drop 24).drop 24).drop 24).drop 24), List.all_append, w_t7, w_t8]
  rfl
set_option maxRecDepth 65536 in
theorem w_rest : rest_1_c.before args0 about1 = true := by decide +kernel
set_option maxRecDepth 65536 in
theorem w_case : (Jvm.Cond.and given_1 narrow_1).before args0 about1 = true := by decide +kernel
theorem w_applies : (headSpec (Jvm.Cond.code x code maxLocals ret :: tables_1) room_1).applies x e0.platform about1 = true :=
  (Spec.applies_iff w_frames).mpr ⟨w_running, w_runnable, w_alone, w_named, w_hears, w_ripe, w_room, w_tables⟩
theorem atStart : AtStart classFile x code maxLocals ret World_1 tables_1 room_1 Calls_1 rest_1 Pre_1 launch0 p0 e0 about1 theMethod args0 below0 :=
  ⟨lists_1, trivial, launch0.admits_env _ _ _, launch0.least_env, fairChoices_fair.cas, fairChoices_fair.clock, w_frames, w_args, w_heap, w_applies, trivial, w_rest, w_case⟩
end start1
theorem witness_1 : WitnessClaimed_1 := ⟨start1.p0, start1.e0, start1.about1, start1.theMethod, start1.args0, start1.below0, start1.atStart⟩
end Jvm.Pilot.@@N@@
