import JvmDerived
import JvmDerived.Pilot.@@N@@Statement
import JvmDerived.Pilot.@@N@@Code
set_option linter.unusedVariables false
set_option linter.unusedSimpArgs false
@@BLOCK:NumsL.lean.txt@@
namespace Jvm.LM
open Sem ClassFile Op Lib Jvm.Stand Jvm.Free Jvm.LawKit Jvm.RoadKit
/-! A small machine over plain data that mirrors the bytecode of one class and of a law over it. -/
abbrev Lv := List (Option Value)
abbrev St := (Nat → Nat → Int32) × (Nat → Nat → Int64)
abbrev Cd := List (Nat × Instr × Nat)
/-- name, descriptor, kind (0 int, 1 boolean, 2 long, 3+j the j-th array), final -/
abbrev Fe := String × String × Nat × Bool
/-- name, descriptor, number of arguments, return kind (0 none, 1 int, 2 boolean, 3 long), code, max_locals, room: frames, locals -/
abbrev Me := String × String × Nat × Nat × Cd × Nat × Nat × Nat
/-- class name, fields, arrays (kind, length), pool to field, pool to method, pool to constant, methods, pool index of Object's constructor -/
abbrev Cl := String × List (Nat × Fe) × List (Nat × Nat) × List (Nat × Nat) × List (Nat × Nat) × List (Nat × Value) × List (Nat × Me) × Nat
def Me.nm (m : Me) : String := m.1
def Me.ds (m : Me) : String := m.2.1
def Me.na (m : Me) : Nat := m.2.2.1
def Me.rt (m : Me) : Nat := m.2.2.2.1
def Me.cd (m : Me) : Cd := m.2.2.2.2.1
def Me.ml (m : Me) : Nat := m.2.2.2.2.2.1
def Me.rf (m : Me) : Nat := m.2.2.2.2.2.2.1
def Me.rl (m : Me) : Nat := m.2.2.2.2.2.2.2
def Cl.nm (P : Cl) : String := P.1
def Cl.fs (P : Cl) : List (Nat × Fe) := P.2.1
def Cl.al (P : Cl) : List (Nat × Nat) := P.2.2.1
def Cl.fx (P : Cl) : List (Nat × Nat) := P.2.2.2.1
def Cl.mx (P : Cl) : List (Nat × Nat) := P.2.2.2.2.1
def Cl.kx (P : Cl) : List (Nat × Value) := P.2.2.2.2.2.1
def Cl.ms (P : Cl) : List (Nat × Me) := P.2.2.2.2.2.2.1
def Cl.oi (P : Cl) : Nat := P.2.2.2.2.2.2.2
def gI (s : St) (c j : Nat) : Int32 := s.1 c j
def gL (s : St) (c j : Nat) : Int64 := s.2 c j
def sI (s : St) (c j : Nat) (v : Int32) : St := (fun a b => if a = c ∧ b = j then v else s.1 a b, s.2)
def sL (s : St) (c j : Nat) (v : Int64) : St := (s.1, fun a b => if a = c ∧ b = j then v else s.2 a b)
def s0 : St := (fun _ _ => 0, fun _ _ => 0)
def ix (i : Int32) : Nat := i.toNatClampNeg
abbrev inb (n : Nat) (i : Int32) : Prop := 0 ≤ i.toInt ∧ i.toInt < (n : Int)
def asc {α : Type} : List (Nat × α) → Nat → Option α
  | [], _ => none
  | (a, b) :: r, k => match Nat.beq a k with
    | true => some b
    | false => asc r k
def fetch : Cd → Nat → Option (Instr × Nat)
  | [], _ => none
  | (a, b) :: r, k => match Nat.beq a k with
    | true => some b
    | false => fetch r k
def ilen : Instr → Nat
  | .iload _ => 2 | .lload _ => 2 | .aload _ => 2 | .istore _ => 2 | .lstore _ => 2 | .astore _ => 2 | .bipush _ => 2 | .ldc _ => 2 | .newarray _ => 2
  | .sipush _ => 3 | .iinc _ _ => 3 | .goto _ => 3 | .ifCond _ _ => 3 | .if_icmp _ _ => 3 | .getfield _ => 3 | .putfield _ => 3
  | .invokevirtual _ => 3 | .invokespecial _ => 3 | .invokestatic _ => 3 | .new _ => 3 | .ldc2_w _ => 3
  | _ => 1
def isSw : Instr → Bool
  | .tableswitch _ _ _ _ => true
  | _ => false
def clr (ls : Lv) : Nat → Lv
  | 0 => ls
  | j + 1 => match ls[j]? with
    | some (some (.long _)) => ls.set j none
    | some (some (.double _)) => ls.set j none
    | _ => ls
/-- a store into the local variables: a long takes two -/
def stl (ls : Lv) (i : Nat) (v : Value) : Option Lv :=
  match v with
  | .long x => if i + 1 < ls.length then some (((clr ls i).set i (some (.long x))).set (i + 1) none) else none
  | w => if i < ls.length then some ((clr ls i).set i (some w)) else none
def br (cd : ClassFile.Cond) (x y : Int32) (a b : Nat) : Nat :=
  match cd with
  | .eq => if x = y then a else b
  | .ne => if x = y then b else a
  | .lt => if x < y then a else b
  | .ge => if x < y then b else a
  | .gt => if y < x then a else b
  | .le => if y < x then b else a
def jmp (pc : Nat) (o : Int) : Nat := ((pc : Int) + o).toNat
def qstep (i : Instr) (pc : Nat) (st : List Value) : Option (Nat × List Value) :=
  match i with
  | .iconst v => some (pc + 1, .int (Int32.ofInt v) :: st)
  | .bipush v => some (pc + 2, .int (Int8.ofInt v).toInt32 :: st)
  | .sipush v => some (pc + 3, .int (Int16.ofInt v).toInt32 :: st)
  | .lconst k => some (pc + 1, .long (Int64.ofNat k) :: st)
  | .iadd => match st with | .int y :: .int x :: r => some (pc + 1, .int (x + y) :: r) | _ => none
  | .isub => match st with | .int y :: .int x :: r => some (pc + 1, .int (x - y) :: r) | _ => none
  | .imul => match st with | .int y :: .int x :: r => some (pc + 1, .int (x * y) :: r) | _ => none
  | .iand => match st with | .int y :: .int x :: r => some (pc + 1, .int (x &&& y) :: r) | _ => none
  | .ior => match st with | .int y :: .int x :: r => some (pc + 1, .int (x ||| y) :: r) | _ => none
  | .ixor => match st with | .int y :: .int x :: r => some (pc + 1, .int (x ^^^ y) :: r) | _ => none
  | .ishl => match st with | .int y :: .int x :: r => some (pc + 1, .int (x <<< (y &&& 31)) :: r) | _ => none
  | .ishr => match st with | .int y :: .int x :: r => some (pc + 1, .int (x >>> (y &&& 31)) :: r) | _ => none
  | .iushr => match st with | .int y :: .int x :: r => some (pc + 1, .int (XT.ushr x y) :: r) | _ => none
  | .idiv => match st with | .int y :: .int x :: r => if y = 0 then none else some (pc + 1, .int (x / y) :: r) | _ => none
  | .irem => match st with | .int y :: .int x :: r => if y = 0 then none else some (pc + 1, .int (x % y) :: r) | _ => none
  | .ineg => match st with | .int x :: r => some (pc + 1, .int (-x) :: r) | _ => none
  | .ladd => match st with | .long y :: .long x :: r => some (pc + 1, .long (x + y) :: r) | _ => none
  | .lsub => match st with | .long y :: .long x :: r => some (pc + 1, .long (x - y) :: r) | _ => none
  | .lmul => match st with | .long y :: .long x :: r => some (pc + 1, .long (x * y) :: r) | _ => none
  | .land => match st with | .long y :: .long x :: r => some (pc + 1, .long (x &&& y) :: r) | _ => none
  | .lor => match st with | .long y :: .long x :: r => some (pc + 1, .long (x ||| y) :: r) | _ => none
  | .lxor => match st with | .long y :: .long x :: r => some (pc + 1, .long (x ^^^ y) :: r) | _ => none
  | .lshl => match st with | .int y :: .long x :: r => some (pc + 1, .long (x <<< (y.toInt64 &&& 63)) :: r) | _ => none
  | .lshr => match st with | .int y :: .long x :: r => some (pc + 1, .long (x >>> (y.toInt64 &&& 63)) :: r) | _ => none
  | .lushr => match st with | .int y :: .long x :: r => some (pc + 1, .long (XT.ushrL x y) :: r) | _ => none
  | .ldiv => match st with | .long y :: .long x :: r => if y = 0 then none else some (pc + 1, .long (x / y) :: r) | _ => none
  | .lneg => match st with | .long x :: r => some (pc + 1, .long (-x) :: r) | _ => none
  | .lcmp => match st with | .long y :: .long x :: r => some (pc + 1, .int (XT.cmpL x y) :: r) | _ => none
  | .i2l => match st with | .int x :: r => some (pc + 1, .long x.toInt64 :: r) | _ => none
  | .l2i => match st with | .long x :: r => some (pc + 1, .int x.toInt32 :: r) | _ => none
  | .dup => match st with | .int x :: r => some (pc + 1, .int x :: .int x :: r) | .ref x :: r => some (pc + 1, .ref x :: .ref x :: r) | _ => none
  | .pop => match st with | .int _ :: r => some (pc + 1, r) | .ref _ :: r => some (pc + 1, r) | _ => none
  | .goto o => if 0 ≤ (pc : Int) + o then some (jmp pc o, st) else none
  | .ifCond cd o => match st with | .int x :: r => if 0 ≤ (pc : Int) + o then some (br cd x 0 (jmp pc o) (pc + 3), r) else none | _ => none
  | .if_icmp cd o => match st with | .int y :: .int x :: r => if 0 ≤ (pc : Int) + o then some (br cd x y (jmp pc o) (pc + 3), r) else none | _ => none
  | .tableswitch d lo hi offs => match st with
    | .int x :: r => if x.toInt < lo ∨ x.toInt > hi then (if 0 ≤ (pc : Int) + d then some (jmp pc d, r) else none)
      else (match offs[(x.toInt - lo).toNat]? with | some o => if 0 ≤ (pc : Int) + o then some (jmp pc o, r) else none | none => none)
    | _ => none
  | _ => none
def pstep (i : Instr) (pc : Nat) (ls : Lv) (st : List Value) : Option (Nat × Lv × List Value) :=
  match i with
  | .iload_n k => match ls[k.val]? with | some (some (.int v)) => some (pc + 1, ls, .int v :: st) | _ => none
  | .iload k => match ls[k]? with | some (some (.int v)) => some (pc + 2, ls, .int v :: st) | _ => none
  | .lload_n k => match ls[k.val]? with | some (some (.long v)) => some (pc + 1, ls, .long v :: st) | _ => none
  | .lload k => match ls[k]? with | some (some (.long v)) => some (pc + 2, ls, .long v :: st) | _ => none
  | .aload_n k => match ls[k.val]? with | some (some (.ref v)) => some (pc + 1, ls, .ref v :: st) | _ => none
  | .aload k => match ls[k]? with | some (some (.ref v)) => some (pc + 2, ls, .ref v :: st) | _ => none
  | .istore_n k => match st with | .int v :: r => (match stl ls k.val (.int v) with | some l => some (pc + 1, l, r) | none => none) | _ => none
  | .istore k => match st with | .int v :: r => (match stl ls k (.int v) with | some l => some (pc + 2, l, r) | none => none) | _ => none
  | .lstore_n k => match st with | .long v :: r => (match stl ls k.val (.long v) with | some l => some (pc + 1, l, r) | none => none) | _ => none
  | .lstore k => match st with | .long v :: r => (match stl ls k (.long v) with | some l => some (pc + 2, l, r) | none => none) | _ => none
  | .astore_n k => match st with | .ref v :: r => (match stl ls k.val (.ref v) with | some l => some (pc + 1, l, r) | none => none) | _ => none
  | .astore k => match st with | .ref v :: r => (match stl ls k (.ref v) with | some l => some (pc + 2, l, r) | none => none) | _ => none
  | .iinc k d => match ls[k]? with | some (some (.int v)) => (match stl ls k (.int (v + Int32.ofInt d)) with | some l => some (pc + 3, l, st) | none => none) | _ => none
  | i => match qstep i pc st with | some (pc', st') => some (pc', ls, st') | none => none
/-- how the machine's references stand in the heap -/
def va (ρ : Nat → Nat) : Value → Value
  | .ref c => .ref (ρ c)
  | v => v
def WF (L : Array Slot) : Prop :=
  (∀ (k : Nat) (v : Value), L[k]? = some (Slot.val v) → v.category = 2 → L[k + 1]? = some .second) ∧
  (∀ k : Nat, L[k + 1]? = some Slot.second → ∃ v : Value, L[k]? = some (Slot.val v) ∧ v.category = 2) ∧ L[0]? ≠ some Slot.second
def LR (ρ : Nat → Nat) (ls : Lv) (L : Array Slot) : Prop :=
  L.size = ls.length ∧ (∀ (k : Nat) (v : Value), ls[k]? = some (some v) → L[k]? = some (Slot.val (va ρ v))) ∧ WF L
end Jvm.LM

namespace Jvm.LM
open Sem ClassFile Op Lib Jvm.Stand Jvm.Free Jvm.LawKit Jvm.RoadKit
/-! the local variables -/
def upd (f : Nat → Option Slot) (i : Nat) (x : Slot) : Nat → Option Slot := fun k => if k = i then some x else f k
def WFf (f : Nat → Option Slot) : Prop :=
  (∀ k v, f k = some (.val v) → v.category = 2 → f (k + 1) = some .second) ∧
  (∀ k, f (k + 1) = some .second → ∃ v, f k = some (.val v) ∧ v.category = 2) ∧ f 0 ≠ some .second
def clearF (f : Nat → Option Slot) (i : Nat) : Nat → Option Slot :=
  match f i with
  | some .second => upd (upd f (i - 1) .unset) i .unset
  | some (.val old) => if old.category = 2 then upd (upd f (i + 1) .unset) i .unset else upd f i .unset
  | _ => f
theorem clearF_cases (f : Nat → Option Slot) (i : Nat) : (f i = some .second ∧ clearF f i = upd (upd f (i - 1) .unset) i .unset) ∨ (∃ old, f i = some (.val old) ∧ old.category = 2 ∧ clearF f i = upd (upd f (i + 1) .unset) i .unset) ∨
    (∃ old, f i = some (.val old) ∧ old.category ≠ 2 ∧ clearF f i = upd f i .unset) ∨ ((f i = some .unset ∨ f i = none) ∧ clearF f i = f) := by
  cases h : f i with
  | none => exact Or.inr (Or.inr (Or.inr ⟨Or.inr rfl, by simp only [clearF, h]⟩))
  | some x =>
    cases x with
    | unset => exact Or.inr (Or.inr (Or.inr ⟨Or.inl rfl, by simp only [clearF, h]⟩))
    | second => exact Or.inl ⟨rfl, by simp only [clearF, h]⟩
    | val old =>
      by_cases hc : old.category = 2
      · exact Or.inr (Or.inl ⟨old, rfl, hc, by simp only [clearF, h]; rw [if_pos hc]⟩)
      · exact Or.inr (Or.inr (Or.inl ⟨old, rfl, hc, by simp only [clearF, h]; rw [if_neg hc]⟩))
theorem wff_clear {f : Nat → Option Slot} (h : WFf f) (i : Nat) : WFf (clearF f i) := by
  obtain ⟨h1, h2, h3⟩ := h
  unfold clearF
  split
  · rename_i e
    cases i with
    | zero => exact absurd e h3
    | succ j =>
      refine ⟨fun k v hk hc => ?_, fun k hk => ?_, ?_⟩
      · simp only [upd, Nat.add_sub_cancel] at hk ⊢
        have := h1 k v
        by_cases a : k = j + 1
        · simp [a] at hk
        · by_cases b : k = j
          · simp [b] at hk
          · have c : k + 1 ≠ j + 1 := by omega
            simp only [a, b, if_false] at hk
            by_cases d : k + 1 = j
            · have := h1 k v hk hc
              obtain ⟨w, hw, hw2⟩ := h2 j e
              rw [d, hw] at this; cases this
            · simp [c, d, b, h1 k v hk hc]
      · simp only [upd, Nat.add_sub_cancel] at hk ⊢
        by_cases a : k = j
        · simp [a] at hk
        · by_cases b : k + 1 = j
          · simp [b] at hk
          · simp only [show ¬ (k + 1 = j + 1) by omega, b, if_false] at hk
            obtain ⟨w, hw, hw2⟩ := h2 k hk
            by_cases d : k = j + 1
            · rw [d, e] at hw; cases hw
            · exact ⟨w, by simp [d, a, hw], hw2⟩
      · simp only [upd, Nat.add_sub_cancel]
        by_cases b : 0 = j
        · simp [← b]
        · simp [b, h3]
  · rename_i old e
    split
    · rename_i hc2
      have e2 := h1 i old e hc2
      refine ⟨fun k v hk hc => ?_, fun k hk => ?_, ?_⟩
      · simp only [upd] at hk ⊢
        by_cases a : k = i
        · simp [a] at hk
        · by_cases b : k = i + 1
          · simp [b] at hk
          · simp only [a, b, if_false] at hk
            have q := h1 k v hk hc
            by_cases d : k + 1 = i
            · rw [d, e] at q; cases q
            · simp [d, a, show ¬ (k + 1 = i + 1) by omega, q]
      · simp only [upd] at hk ⊢
        by_cases a : k + 1 = i
        · simp [a] at hk
        · by_cases b : k = i
          · simp [b] at hk
          · simp only [a, show ¬ (k + 1 = i + 1) by omega, if_false] at hk
            obtain ⟨w, hw, hw2⟩ := h2 k hk
            by_cases d : k = i + 1
            · rw [d, e2] at hw; cases hw
            · exact ⟨w, by simp [d, b, hw], hw2⟩
      · simp only [upd]
        by_cases b : 0 = i
        · simp [← b]
        · simp [b, h3]
    · rename_i hc2
      refine ⟨fun k v hk hc => ?_, fun k hk => ?_, ?_⟩
      · simp only [upd] at hk ⊢
        by_cases a : k = i
        · simp [a] at hk
        · simp only [a, if_false] at hk
          have q := h1 k v hk hc
          by_cases d : k + 1 = i
          · rw [d, e] at q; cases q
          · simp [d, q]
      · simp only [upd] at hk ⊢
        by_cases a : k + 1 = i
        · simp [a] at hk
        · simp only [a, if_false] at hk
          obtain ⟨w, hw, hw2⟩ := h2 k hk
          by_cases d : k = i
          · rw [d, e] at hw; cases hw; exact absurd hw2 hc2
          · exact ⟨w, by simp [d, hw], hw2⟩
      · simp only [upd]
        by_cases b : 0 = i
        · simp [← b]
        · simp [b, h3]
  · exact ⟨h1, h2, h3⟩
theorem wff_one {f : Nat → Option Slot} (h : WFf f) {i : Nat} (e : f i = some .unset) {v : Value} (hv : v.category ≠ 2) : WFf (upd f i (.val v)) := by
  obtain ⟨h1, h2, h3⟩ := h
  refine ⟨fun k w hk hc => ?_, fun k hk => ?_, ?_⟩
  · simp only [upd] at hk ⊢
    by_cases a : k = i
    · simp only [a, if_true, Option.some.injEq, Slot.val.injEq] at hk; subst hk; exact absurd hc hv
    · simp only [a, if_false] at hk
      have q := h1 k w hk hc
      by_cases d : k + 1 = i
      · rw [d, e] at q; cases q
      · simp [d, q]
  · simp only [upd] at hk ⊢
    by_cases a : k + 1 = i
    · simp [a] at hk
    · simp only [a, if_false] at hk
      obtain ⟨w, hw, hw2⟩ := h2 k hk
      by_cases d : k = i
      · rw [d, e] at hw; cases hw
      · exact ⟨w, by simp [d, hw], hw2⟩
  · simp only [upd]
    by_cases b : 0 = i
    · simp [← b]
    · simp [b, h3]
theorem wff_two {f : Nat → Option Slot} (h : WFf f) {i : Nat} (e : f i = some .unset) (e' : f (i + 1) = some .unset) {v : Value} (hv : v.category = 2) : WFf (upd (upd f i (.val v)) (i + 1) .second) := by
  obtain ⟨h1, h2, h3⟩ := h
  refine ⟨fun k w hk hc => ?_, fun k hk => ?_, ?_⟩
  · simp only [upd] at hk ⊢
    by_cases a : k = i + 1
    · simp [a] at hk
    · by_cases b : k = i
      · simp [b]
      · simp only [a, b, if_false] at hk
        have q := h1 k w hk hc
        by_cases d : k + 1 = i
        · rw [d, e] at q; cases q
        · simp [d, show ¬ (k + 1 = i + 1) by omega, q]
  · simp only [upd] at hk ⊢
    by_cases a : k = i
    · exact ⟨v, by simp [a], hv⟩
    · by_cases b : k + 1 = i
      · simp [b] at hk
      · simp only [show ¬ (k + 1 = i + 1) by omega, b, if_false] at hk
        obtain ⟨w, hw, hw2⟩ := h2 k hk
        by_cases d : k = i + 1
        · rw [d, e'] at hw; cases hw
        · exact ⟨w, by simp [d, a, hw], hw2⟩
  · simp only [upd]
    by_cases b : 0 = i
    · simp [← b]
    · simp [b, h3]
theorem gset (L : Array Slot) {i : Nat} (hi : i < L.size) (x : Slot) : (fun k => (L.setIfInBounds i x)[k]?) = upd (fun k => L[k]?) i x := by
  funext k
  simp only [upd, Array.getElem?_setIfInBounds]
  by_cases a : i = k
  · subst a; simp [hi]
  · simp [a, show ¬ k = i from fun h => a h.symm]
theorem sl_eq (L : Array Slot) (i : Nat) (v : Value) : storeLocals L i v = (L[i]?).bind (fun x => match x with
    | .second => (setAt L (i - 1) .unset).bind (fun l => storeSelf l i v)
    | .val old => if old.category = 2 then (setAt L (i + 1) .unset).bind (fun l => storeSelf l i v) else storeSelf L i v
    | .unset => storeSelf L i v) := rfl
theorem ss_eq (L : Array Slot) (i : Nat) (v : Value) : storeSelf L i v = (setAt L i (.val v)).bind (fun l => if v.category = 2 then (l[i + 1]?).bind (fun x => match x with
    | .val old => if old.category = 2 then (setAt l (i + 2) .unset).bind (fun l' => setAt l' (i + 1) .second) else setAt l (i + 1) .second
    | _ => setAt l (i + 1) .second) else some l) := rfl
theorem sa_eq {L : Array Slot} {i : Nat} (hi : i < L.size) (x : Slot) : setAt L i x = some (L.setIfInBounds i x) := if_pos hi
theorem upd_upd (f : Nat → Option Slot) (i : Nat) (x y : Slot) : upd (upd f i x) i y = upd f i y := by
  funext k; simp only [upd]; split <;> rfl
/-- what a store clears first -/
theorem clear_ok {L : Array Slot} (hW : WF L) {i : Nat} (hi : i < L.size) (v : Value) : ∃ L1, storeLocals L i v = storeSelf L1 i v ∧ L1.size = L.size ∧ upd (fun k => L1[k]?) i .unset = upd (clearF (fun k => L[k]?) i) i .unset := by
  have hh : WFf (fun k => L[k]?) := hW
  obtain ⟨sl, hsl⟩ : ∃ sl, L[i]? = some sl := ⟨L[i], Array.getElem?_eq_getElem hi⟩
  rw [sl_eq, hsl, Option.bind_some]
  cases sl with
  | unset => exact ⟨L, rfl, rfl, by simp only [clearF, hsl]⟩
  | second =>
    refine ⟨L.setIfInBounds (i - 1) .unset, ?_, by simp, ?_⟩
    · show (setAt L (i - 1) .unset).bind _ = _
      rw [sa_eq (by omega)]; rfl
    · rw [gset _ (by omega)]; simp only [clearF, hsl, upd_upd]
  | val old =>
    by_cases hc : old.category = 2
    · have h2 := hh.1 i old hsl hc
      have hlt : i + 1 < L.size := (Array.getElem?_eq_some_iff.mp h2).1
      refine ⟨L.setIfInBounds (i + 1) .unset, ?_, by simp, ?_⟩
      · show (if old.category = 2 then _ else _) = _
        rw [if_pos hc, sa_eq hlt]; rfl
      · rw [gset _ hlt]; simp only [clearF, hsl, hc, if_true, upd_upd]
    · refine ⟨L, ?_, rfl, ?_⟩
      · show (if old.category = 2 then _ else _) = _
        rw [if_neg hc]
      · simp only [clearF, hsl, hc, if_false, upd_upd]
theorem clearF_at {f : Nat → Option Slot} {i : Nat} (hi : f i ≠ none) : clearF f i i = some .unset := by
  rcases clearF_cases f i with ⟨h1, h2⟩ | ⟨old, h1, h3, h2⟩ | ⟨old, h1, h3, h2⟩ | ⟨h1 | h1, h2⟩
  · rw [h2]; simp [upd]
  · rw [h2]; simp [upd]
  · rw [h2]; simp [upd]
  · rw [h2]; exact h1
  · exact absurd h1 hi
theorem clearF_self {f : Nat → Option Slot} {i : Nat} (hi : f i ≠ none) : upd (clearF f i) i .unset = clearF f i := by
  funext k; simp only [upd]; split
  · rename_i e; rw [e]; exact (clearF_at hi).symm
  · rfl
/-- the other variables: kept, or they held (a part of) a long -/
theorem clearF_keep {f : Nat → Option Slot} (h : WFf f) {i k : Nat} {w : Value} (hk : k ≠ i) (e : f k = some (.val w)) (hw : k + 1 = i → w.category ≠ 2) : clearF f i k = some (.val w) := by
  rcases clearF_cases f i with ⟨e2, h2⟩ | ⟨old, e2, hc, h2⟩ | ⟨old, e2, hc, h2⟩ | ⟨-, h2⟩
  · rw [h2]
    cases i with
    | zero => exact absurd e2 h.2.2
    | succ j =>
      simp only [upd, Nat.add_sub_cancel, hk, if_false]
      split
      · rename_i hj; subst hj
        obtain ⟨v, hv, hv2⟩ := h.2.1 k e2
        rw [e] at hv; cases hv; exact absurd hv2 (hw rfl)
      · exact e
  · rw [h2]
    have q := h.1 i old e2 hc
    simp only [upd, hk, if_false]
    split
    · rename_i hj; rw [hj, q] at e; cases e
    · exact e
  · rw [h2]; simp [upd, hk, e]
  · rw [h2]; exact e
theorem store_one {L : Array Slot} (hW : WF L) {i : Nat} (hi : i < L.size) {v : Value} (hv : v.category ≠ 2) :
    ∃ L', storeLocals L i v = some L' ∧ L'.size = L.size ∧ WF L' ∧ (fun k => L'[k]?) = upd (clearF (fun k => L[k]?) i) i (.val v) := by
  obtain ⟨L1, h1, h2, h3⟩ := clear_ok hW hi v
  have hne : (fun k => L[k]?) i ≠ none := by simp; omega
  have hi1 : i < L1.size := by omega
  refine ⟨L1.setIfInBounds i (.val v), ?_, by simp [h2], ?_, ?_⟩
  · rw [h1, ss_eq, sa_eq hi1, Option.bind_some, if_neg hv]
  · have q : (fun k => (L1.setIfInBounds i (.val v))[k]?) = upd (clearF (fun k => L[k]?) i) i (.val v) := by
      rw [gset _ hi1, ← upd_upd _ i .unset, h3, upd_upd]
    have w : WFf (fun k => (L1.setIfInBounds i (.val v))[k]?) := by
      rw [q]; exact wff_one (wff_clear hW i) (clearF_at hne) hv
    exact w
  · rw [gset _ hi1, ← upd_upd _ i .unset, h3, upd_upd]
theorem store_two {L : Array Slot} (hW : WF L) {i : Nat} (hi : i + 1 < L.size) {v : Value} (hv : v.category = 2) :
    ∃ L', storeLocals L i v = some L' ∧ L'.size = L.size ∧ WF L' ∧ (fun k => L'[k]?) = upd (upd (clearF (clearF (fun k => L[k]?) i) (i + 1)) i (.val v)) (i + 1) .second := by
  obtain ⟨L1, h1, h2, h3⟩ := clear_ok hW (show i < L.size by omega) v
  have hne : (fun k => L[k]?) i ≠ none := by simp; omega
  have hi1 : i < L1.size := by omega
  have hi2 : i + 1 < L1.size := by omega
  rw [clearF_self hne] at h3
  have hWc := wff_clear (f := fun k => L[k]?) hW i
  generalize hF : clearF (fun k => L[k]?) i = F at *
  have hFi : F i = some .unset := by rw [← hF]; exact clearF_at hne
  have g1 : (fun k => (L1.setIfInBounds i (.val v))[k]?) = upd F i (.val v) := by rw [gset _ hi1, ← upd_upd _ i .unset, h3]
  have g2 : (L1.setIfInBounds i (.val v))[i + 1]? = F (i + 1) := by
    have := congrFun g1 (i + 1); simpa [upd] using this
  have hFi1 : F (i + 1) ≠ none := by
    have : (L1.setIfInBounds i (.val v))[i + 1]? ≠ none := by simp; omega
    rw [g2] at this; exact this
  have hns : F (i + 1) ≠ some .second := fun q => by
    obtain ⟨w, hw, -⟩ := hWc.2.1 i q
    rw [hFi] at hw; cases hw
  have key : ∀ G : Nat → Option Slot, WFf G → G i = some .unset → G (i + 1) = some .unset → G = clearF F (i + 1) → WFf (upd (upd (clearF F (i + 1)) i (.val v)) (i + 1) .second) := fun G hG a b e => by rw [← e]; exact wff_two hG a b hv
  have hcl := wff_clear hWc (i + 1)
  have hcli : clearF F (i + 1) i = some .unset := by
    rcases clearF_cases F (i + 1) with ⟨q, h2⟩ | ⟨old, q, hc, h2⟩ | ⟨old, q, hc, h2⟩ | ⟨-, h2⟩
    · exact absurd q hns
    · rw [h2]; simp [upd, hFi]
    · rw [h2]; simp [upd, hFi]
    · rw [h2]; exact hFi
  have hWF := wff_two hcl hcli (clearF_at hFi1) hv
  rw [h1, ss_eq, sa_eq hi1, Option.bind_some, if_pos hv, g2]
  cases hx : F (i + 1) with
  | none => exact absurd hx hFi1
  | some sl =>
    cases sl with
    | second => exact absurd hx hns
    | unset =>
      have e1 : clearF F (i + 1) = F := by simp only [clearF, hx]
      have e3 : (fun k => ((L1.setIfInBounds i (.val v)).setIfInBounds (i + 1) .second)[k]?) = upd (upd (clearF F (i + 1)) i (.val v)) (i + 1) .second := by
        rw [gset _ (by simpa using hi2), g1, e1]
      refine ⟨(L1.setIfInBounds i (.val v)).setIfInBounds (i + 1) .second, ?_, by simp [h2], ?_, e3⟩
      · show setAt _ (i + 1) .second = _
        rw [sa_eq (by simpa using hi2)]
      · have w : WFf (fun k => ((L1.setIfInBounds i (.val v)).setIfInBounds (i + 1) .second)[k]?) := by rw [e3]; exact hWF
        exact w
    | val old =>
      by_cases hc : old.category = 2
      · have q := hWc.1 _ _ hx hc
        have hi3 : i + 2 < L1.size := by
          have q2 : (L1.setIfInBounds i (.val v))[i + 2]? = some .second := by
            have := congrFun g1 (i + 2); simpa [upd, q] using this
          have := (Array.getElem?_eq_some_iff.mp q2).1
          simpa using this
        have e1 : clearF F (i + 1) = upd (upd F (i + 2) .unset) (i + 1) .unset := by simp only [clearF, hx, hc, if_true]
        have e3 : (fun k => (((L1.setIfInBounds i (.val v)).setIfInBounds (i + 2) .unset).setIfInBounds (i + 1) .second)[k]?) = upd (upd (clearF F (i + 1)) i (.val v)) (i + 1) .second := by
          rw [gset _ (by simpa using hi2), gset _ (by simpa using hi3), g1, e1]
          funext k; simp only [upd]
          by_cases a : k = i + 1
          · simp [a]
          · by_cases b : k = i
            · simp [b]
            · simp [a, b]
        refine ⟨((L1.setIfInBounds i (.val v)).setIfInBounds (i + 2) .unset).setIfInBounds (i + 1) .second, ?_, by simp [h2], ?_, e3⟩
        · show (if old.category = 2 then _ else _) = _
          rw [if_pos hc, sa_eq (by simpa using hi3), Option.bind_some, sa_eq (by simpa using hi2)]
        · have w : WFf (fun k => (((L1.setIfInBounds i (.val v)).setIfInBounds (i + 2) .unset).setIfInBounds (i + 1) .second)[k]?) := by rw [e3]; exact hWF
          exact w
      · have e1 : clearF F (i + 1) = upd F (i + 1) .unset := by simp only [clearF, hx, hc, if_false]
        have e3 : (fun k => ((L1.setIfInBounds i (.val v)).setIfInBounds (i + 1) .second)[k]?) = upd (upd (clearF F (i + 1)) i (.val v)) (i + 1) .second := by
          rw [gset _ (by simpa using hi2), g1, e1]
          funext k; simp only [upd]
          by_cases a : k = i + 1
          · simp [a]
          · by_cases b : k = i
            · simp [b]
            · simp [a, b]
        refine ⟨(L1.setIfInBounds i (.val v)).setIfInBounds (i + 1) .second, ?_, by simp [h2], ?_, e3⟩
        · show (if old.category = 2 then _ else _) = _
          rw [if_neg hc, sa_eq (by simpa using hi2)]
        · have w : WFf (fun k => ((L1.setIfInBounds i (.val v)).setIfInBounds (i + 1) .second)[k]?) := by rw [e3]; exact hWF
          exact w
theorem cat_va (ρ : Nat → Nat) (v : Value) : (va ρ v).category = v.category := by cases v <;> rfl
theorem clr_len (ls : Lv) (i : Nat) : (clr ls i).length = ls.length := by
  cases i with
  | zero => rfl
  | succ j => simp only [clr]; split <;> simp
theorem clr_get {ls : Lv} {i k : Nat} {v : Value} (h : (clr ls i)[k]? = some (some v)) : ls[k]? = some (some v) ∧ (k + 1 = i → v.category ≠ 2) := by
  cases i with
  | zero => exact ⟨h, fun q => by omega⟩
  | succ j =>
    simp only [clr] at h
    split at h
    · rename_i x e
      rw [List.getElem?_set] at h
      split at h
      · rename_i hj; subst hj; split at h <;> simp at h
      · rename_i hj; exact ⟨h, fun q => by omega⟩
    · rename_i x e
      rw [List.getElem?_set] at h
      split at h
      · rename_i hj; subst hj; split at h <;> simp at h
      · rename_i hj; exact ⟨h, fun q => by omega⟩
    · rename_i e1 e2
      refine ⟨h, fun q hc => ?_⟩
      have hk : k = j := by omega
      subst hk
      cases v <;> first | exact e1 _ h | exact e2 _ h | (exact Nat.noConfusion (Nat.succ.inj hc))
theorem store_ok {ρ : Nat → Nat} {ls ls' : Lv} {L : Array Slot} {i : Nat} {v : Value} (hL : LR ρ ls L) (hd : ∀ x, v ≠ .double x) (h : stl ls i v = some ls') : ∃ L', storeLocals L i (va ρ v) = some L' ∧ LR ρ ls' L' ∧ L'.size = L.size := by
  obtain ⟨hz, hr, hW⟩ := hL
  have hWf : WFf (fun k => L[k]?) := hW
  by_cases hc : v.category = 2
  · obtain ⟨x, rfl⟩ : ∃ x, v = .long x := by cases v <;> simp [Value.category] at hc <;> first | exact ⟨_, rfl⟩ | exact absurd rfl (hd _)
    simp only [stl] at h
    split at h
    · rename_i hi
      cases h
      obtain ⟨L', a1, a2, a3, a4⟩ := store_two hW (show i + 1 < L.size by omega) (v := va ρ (.long x)) rfl
      refine ⟨L', a1, ⟨by simp [a2, hz, clr_len], fun k w hk => ?_, a3⟩, a2⟩
      have q : L'[k]? = _ := congrFun a4 k
      rw [q]
      rw [List.getElem?_set] at hk
      split at hk
      · simp at hk
      · rename_i hk1
        rw [List.getElem?_set] at hk
        split at hk
        · rename_i hk2; subst hk2
          simp only [clr_len] at hk
          split at hk
          · cases hk; simp [upd]
          · simp at hk
        · rename_i hk2
          obtain ⟨b1, b2⟩ := clr_get hk
          have b3 := hr _ _ b1
          have b4 : clearF (fun k => L[k]?) i k = some (.val (va ρ w)) := clearF_keep hWf (fun q => hk2 q.symm) b3 (fun q => by rw [cat_va]; exact b2 q)
          have b5 := clearF_keep (wff_clear hWf i) (i := i + 1) (fun q => hk1 q.symm) b4 (fun q => absurd (Nat.succ.inj q) fun z => hk2 z.symm)
          simp only [upd, show ¬ k = i + 1 from fun q => hk1 q.symm, show ¬ k = i from fun q => hk2 q.symm, if_false]
          exact b5
    · cases h
  · have hs : stl ls i v = if i < ls.length then some ((clr ls i).set i (some v)) else none := by cases v <;> first | rfl | exact absurd rfl hc
    rw [hs] at h
    split at h
    · rename_i hi
      cases h
      obtain ⟨L', a1, a2, a3, a4⟩ := store_one hW (show i < L.size by omega) (v := va ρ v) (by rw [cat_va]; exact hc)
      refine ⟨L', a1, ⟨by simp [a2, hz, clr_len], fun k w hk => ?_, a3⟩, a2⟩
      have q : L'[k]? = _ := congrFun a4 k
      rw [q]
      rw [List.getElem?_set] at hk
      split at hk
      · rename_i hk2; subst hk2
        simp only [clr_len] at hk
        split at hk
        · cases hk; simp [upd]
        · omega
      · rename_i hk2
        obtain ⟨b1, b2⟩ := clr_get hk
        have b3 := hr _ _ b1
        have b4 : clearF (fun k => L[k]?) i k = some (.val (va ρ w)) := clearF_keep hWf (fun q => hk2 q.symm) b3 (fun q => by rw [cat_va]; exact b2 q)
        simp only [upd, show ¬ k = i from fun q => hk2 q.symm, if_false]
        exact b4
    · cases h
end Jvm.LM

namespace Jvm.LM
open Sem ClassFile Op Lib Jvm.Stand Jvm.Free Jvm.LawKit Jvm.RoadKit
section Pure
variable {p : Program} {l : Launch} {e : Env} {R : Room} {s : State} {m : MethodId} {args : Array Value} {below : List Frame} {meth : Method} {c : Code} {T : State} {locs : List Loc} {cells slots : Nat}
theorem br_eq (cd : ClassFile.Cond) (x y : Int32) (a b : Nat) : br cd x y a b = if if_icmp.holds cd x y = true then a else b := by
  cases cd <;> simp only [br]
  · by_cases h : x = y <;> simp [h, XT.ii_eq_t, XT.ii_eq_f]
  · by_cases h : x = y
    · rw [if_pos h, XT.ii_ne_f h]; rfl
    · rw [if_neg h, XT.ii_ne_t h]; rfl
  · by_cases h : x < y
    · rw [if_pos h, XT.ii_lt_t h]; rfl
    · rw [if_neg h, XT.ii_lt_f h]; rfl
  · by_cases h : x < y
    · rw [if_pos h, XT.ii_ge_f h]; rfl
    · rw [if_neg h, XT.ii_ge_t h]; rfl
  · by_cases h : y < x
    · rw [if_pos h, XT.ii_gt_t h]; rfl
    · rw [if_neg h, XT.ii_gt_f h]; rfl
  · by_cases h : y < x
    · rw [if_pos h, XT.ii_le_f h]; rfl
    · rw [if_neg h, XT.ii_le_t h]; rfl
theorem qstep_sound (X : Stand p l e R s m args below meth c T locs cells slots) (hx : p.tables.exec = Jvm.exec) {ρ : Nat → Nat} {i : Instr} {n pc pc' : Nat} {st st' : List Value}
    (h : qstep i pc st = some (pc', st')) (hd : decode c.code pc = .ok (i, n)) (hn : isSw i = true ∨ n = ilen i) {L : Array Slot} :
    ∀ target, Steps p.tables e below (T.setTop (mkF m pc' L (st'.map (va ρ)))) target → Steps p.tables e below (T.setTop (mkF m pc L (st.map (va ρ)))) target := by
  by_cases hsw : isSw i = true
  · cases i <;> first | exact absurd hsw Bool.false_ne_true | skip
    rename_i d lo hi offs
    simp only [qstep] at h
    split at h
    · rename_i x r
      split at h
      · rename_i e1
        split at h
        · rename_i e2; cases h; exact fun t q => X.tableswitchOut hx (g := mkF m pc L (.int x :: List.map (va ρ) _)) rfl rfl hd e1 e2 t q
        · cases h
      · rename_i e1
        split at h
        · rename_i o e2
          split at h
          · rename_i e3; cases h; exact fun t q => X.tableswitchIn hx (g := mkF m pc L (.int x :: List.map (va ρ) _)) rfl rfl hd e1 e2 e3 t q
          · cases h
        · cases h
    · cases h
  obtain rfl := hn.resolve_left hsw
  unfold qstep at h
  split at h
  -- constants
  · cases h; exact fun t q => XS.iconst X.here hx rfl hd q
  · cases h; exact fun t q => XS.bipush X.here hx rfl hd q
  · cases h; exact fun t q => XS.sipush X.here hx rfl hd q
  · cases h; exact fun t q => XT.lconst X.here hx rfl hd q
  -- ints
  · split at h
    · cases h; exact fun t q => XS.iadd X.here hx rfl hd rfl q
    · cases h
  · split at h
    · cases h; exact fun t q => XS.isub X.here hx rfl hd rfl q
    · cases h
  · split at h
    · cases h; exact fun t q => XS.imul X.here hx rfl hd rfl q
    · cases h
  · split at h
    · cases h; exact fun t q => XS.iand X.here hx rfl hd rfl q
    · cases h
  · split at h
    · cases h; exact fun t q => XT.ior X.here hx rfl hd rfl q
    · cases h
  · split at h
    · cases h; exact fun t q => XT.ixor X.here hx rfl hd rfl q
    · cases h
  · split at h
    · cases h; exact fun t q => XT.ishl X.here hx rfl hd rfl q
    · cases h
  · split at h
    · cases h; exact fun t q => XT.ishr X.here hx rfl hd rfl q
    · cases h
  · split at h
    · cases h; exact fun t q => XT.iushr X.here hx rfl hd rfl q
    · cases h
  · split at h
    · split at h
      · cases h
      · rename_i e1; cases h; exact fun t q => XS.idiv X.here hx rfl hd rfl e1 q
    · cases h
  · split at h
    · split at h
      · cases h
      · rename_i e1; cases h; exact fun t q => iremM X hx rfl hd rfl e1 q
    · cases h
  · split at h
    · cases h; exact fun t q => XS.ineg X.here hx rfl hd rfl q
    · cases h
  -- longs
  · split at h
    · cases h; exact fun t q => XT.ladd X.here hx rfl hd rfl q
    · cases h
  · split at h
    · cases h; exact fun t q => XT.lsub X.here hx rfl hd rfl q
    · cases h
  · split at h
    · cases h; exact fun t q => XT.lmul X.here hx rfl hd rfl q
    · cases h
  · split at h
    · cases h; exact fun t q => XT.land X.here hx rfl hd rfl q
    · cases h
  · split at h
    · cases h; exact fun t q => XT.lor X.here hx rfl hd rfl q
    · cases h
  · split at h
    · cases h; exact fun t q => XT.lxor X.here hx rfl hd rfl q
    · cases h
  · split at h
    · cases h; exact fun t q => XT.lshl X.here hx rfl hd rfl q
    · cases h
  · split at h
    · cases h; exact fun t q => XT.lshr X.here hx rfl hd rfl q
    · cases h
  · split at h
    · cases h; exact fun t q => XT.lushr X.here hx rfl hd rfl q
    · cases h
  · split at h
    · split at h
      · cases h
      · rename_i e1; cases h; exact fun t q => XT.ldiv X.here hx rfl hd rfl e1 q
    · cases h
  · split at h
    · cases h; exact fun t q => XT.lneg X.here hx rfl hd rfl q
    · cases h
  · split at h
    · cases h; exact fun t q => XT.lcmp X.here hx rfl hd rfl q
    · cases h
  · split at h
    · cases h; exact fun t q => XT.i2l X.here hx rfl hd rfl q
    · cases h
  · split at h
    · cases h; exact fun t q => XT.l2i X.here hx rfl hd rfl q
    · cases h
  -- dup, pop
  · split at h
    · cases h; exact fun t q => XS.dup X.here hx rfl hd rfl rfl q
    · cases h; exact fun t q => XS.dup X.here hx rfl hd rfl rfl q
    · cases h
  · split at h
    · cases h; exact fun t q => XT.pop X.here hx rfl hd rfl rfl q
    · cases h; exact fun t q => XT.pop X.here hx rfl hd rfl rfl q
    · cases h
  -- jumps
  · split at h
    · rename_i e1; cases h; exact fun t q => XS.goto X.here hx rfl rfl hd e1 rfl q
    · cases h
  · split at h
    · split at h
      · rename_i e1; cases h
        intro t q
        rw [br_eq] at q
        split at q
        · rename_i e2; exact XS.ifYes X.here hx rfl rfl hd rfl (by rw [if0]; exact e2) e1 rfl q
        · rename_i e2; exact XS.ifNo X.here hx rfl hd rfl (by rw [if0]; simpa using e2) q
      · cases h
    · cases h
  · split at h
    · split at h
      · rename_i e1; cases h
        intro t q
        rw [br_eq] at q
        split at q
        · rename_i e2; exact XS.icmpYes X.here hx rfl rfl hd rfl e2 e1 rfl q
        · rename_i e2; exact XS.icmpNo X.here hx rfl hd rfl (by simpa using e2) q
      · cases h
    · cases h
  · exact absurd rfl hsw
  · cases h
theorem pstep_sound (X : Stand p l e R s m args below meth c T locs cells slots) (hx : p.tables.exec = Jvm.exec) {ρ : Nat → Nat} {i : Instr} {n pc pc' : Nat} {ls ls' : Lv} {st st' : List Value}
    (h : pstep i pc ls st = some (pc', ls', st')) (hd : decode c.code pc = .ok (i, n)) (hn : isSw i = true ∨ n = ilen i) {L : Array Slot} (hL : LR ρ ls L) :
    ∃ L', LR ρ ls' L' ∧ L'.size = L.size ∧ ∀ target, Steps p.tables e below (T.setTop (mkF m pc' L' (st'.map (va ρ)))) target → Steps p.tables e below (T.setTop (mkF m pc L (st.map (va ρ)))) target := by
  by_cases hsw : isSw i = true
  · cases i <;> first | exact absurd hsw Bool.false_ne_true | skip
    simp only [pstep] at h
    split at h
    · rename_i e1; cases h; exact ⟨L, hL, rfl, qstep_sound X hx e1 hd hn⟩
    · cases h
  obtain rfl := hn.resolve_left hsw
  unfold pstep at h
  split at h
  -- loads
  · split at h
    · rename_i e1; cases h; exact ⟨L, hL, rfl, fun t q => XS.iloadN X.here hx rfl hd (hL.2.1 _ _ e1) q⟩
    · cases h
  · split at h
    · rename_i e1; cases h; exact ⟨L, hL, rfl, fun t q => XS.iload X.here hx rfl hd (hL.2.1 _ _ e1) q⟩
    · cases h
  · split at h
    · rename_i e1; cases h; exact ⟨L, hL, rfl, fun t q => XT.lloadN X.here hx rfl hd (hL.2.1 _ _ e1) q⟩
    · cases h
  · split at h
    · rename_i e1; cases h; exact ⟨L, hL, rfl, fun t q => XT.lload X.here hx rfl hd (hL.2.1 _ _ e1) q⟩
    · cases h
  · split at h
    · rename_i e1; cases h; exact ⟨L, hL, rfl, fun t q => XS.aloadN X.here hx rfl hd (hL.2.1 _ _ e1) rfl q⟩
    · cases h
  · split at h
    · rename_i e1; cases h; exact ⟨L, hL, rfl, fun t q => XS.aload X.here hx rfl hd (hL.2.1 _ _ e1) rfl q⟩
    · cases h
  -- stores
  · split at h
    · split at h
      · rename_i e1; cases h
        obtain ⟨L', a1, a2, a3⟩ := store_ok hL (fun x => by simp) e1
        exact ⟨L', a2, a3, fun t q => XS.istoreN X.here hx rfl hd rfl a1 q⟩
      · cases h
    · cases h
  · split at h
    · split at h
      · rename_i e1; cases h
        obtain ⟨L', a1, a2, a3⟩ := store_ok hL (fun x => by simp) e1
        exact ⟨L', a2, a3, fun t q => XS.istore X.here hx rfl hd rfl a1 q⟩
      · cases h
    · cases h
  · split at h
    · split at h
      · rename_i e1; cases h
        obtain ⟨L', a1, a2, a3⟩ := store_ok hL (fun x => by simp) e1
        exact ⟨L', a2, a3, fun t q => XT.lstoreN X.here hx rfl hd rfl a1 q⟩
      · cases h
    · cases h
  · split at h
    · split at h
      · rename_i e1; cases h
        obtain ⟨L', a1, a2, a3⟩ := store_ok hL (fun x => by simp) e1
        exact ⟨L', a2, a3, fun t q => XT.lstore X.here hx rfl hd rfl a1 q⟩
      · cases h
    · cases h
  · split at h
    · split at h
      · rename_i e1; cases h
        obtain ⟨L', a1, a2, a3⟩ := store_ok hL (fun x => by simp) e1
        exact ⟨L', a2, a3, fun t q => XS.astoreN X.here hx rfl hd rfl rfl a1 q⟩
      · cases h
    · cases h
  · split at h
    · split at h
      · rename_i e1; cases h
        obtain ⟨L', a1, a2, a3⟩ := store_ok hL (fun x => by simp) e1
        exact ⟨L', a2, a3, fun t q => XS.astore X.here hx rfl hd rfl rfl a1 q⟩
      · cases h
    · cases h
  · split at h
    · rename_i e0
      split at h
      · rename_i e1; cases h
        obtain ⟨L', a1, a2, a3⟩ := store_ok hL (fun x => by simp) e1
        exact ⟨L', a2, a3, fun t q => XS.iinc X.here hx rfl hd (hL.2.1 _ _ e0) a1 q⟩
      · cases h
    · cases h
  · rename_i hq
    split at h
    · rename_i e1; cases h; exact ⟨L, hL, rfl, qstep_sound X hx e1 hd hn⟩
    · cases h
end Pure
/-! the class's own machine -/
def nd : List Value → Bool
  | [] => true
  | .double _ :: _ => false
  | _ :: r => nd r
theorem nd_spec {as : List Value} (h : nd as = true) : ∀ v ∈ as, ∀ x, v ≠ .double x := by
  induction as with
  | nil => intro v hv; cases hv
  | cons w r ih =>
    intro v hv x e
    rcases List.mem_cons.mp hv with q | q
    · subst q; subst e; cases h
    · refine ih ?_ v q x e
      cases w <;> first | exact h | cases h
def layA : List Value → Lv
  | [] => []
  | .long x :: r => some (.long x) :: none :: layA r
  | v :: r => some v :: layA r
def lay (as : List Value) (n : Nat) : Lv := layA as ++ List.replicate (n - (layA as).length) none
def cats (st : List Value) : Nat := (st.map fun v => v.category).sum
def tyOf : Nat → FieldType
  | 0 => .int
  | 1 => .boolean
  | _ => .long
def atOf : Nat → ArrayType
  | 0 => .int
  | 1 => .boolean
  | _ => .long
def retOf : Nat → Option FieldType
  | 0 => none
  | 1 => some .int
  | 2 => some .boolean
  | _ => some .long
def zs (al : List (Nat × Nat)) (c : Nat) : Nat := ((al.take c).map (·.2)).sum
abbrev Rs := Option (Option Value × St)
def cret (me : Me) (st : List Value) (i : Instr) : Option (Option Value) :=
  match i with
  | .ireturn => match st with
    | [.int x] => if me.rt = 1 then some (some (.int x)) else if me.rt = 2 then some (some (.int (x &&& 1))) else none
    | _ => none
  | .lreturn => match st with
    | [.long x] => if me.rt = 3 then some (some (.long x)) else none
    | _ => none
  | .return_ => match st with
    | [] => if me.rt = 0 then some none else none
    | _ => none
  | _ => none
def isRet : Instr → Bool
  | .ireturn => true
  | .lreturn => true
  | .return_ => true
  | _ => false
def gfld (P : Cl) (x : Nat) (c : Nat) (s : St) : Option Value :=
  match asc P.fx x with
  | none => none
  | some k => match asc P.fs k with
    | none => none
    | some fe => match fe.2.2.1 with
      | 0 => some (.int (gI s 0 k))
      | 1 => some (.int (gI s 0 k))
      | 2 => some (.long (gL s 0 k))
      | j + 3 => if j < c then some (.ref (j + 1)) else none
def pfld (P : Cl) (x : Nat) (ini : Bool) (v : Value) (s : St) : Option St :=
  match asc P.fx x with
  | none => none
  | some k => match asc P.fs k with
    | none => none
    | some fe => if fe.2.2.2 = true ∧ ini = false then none else
      match fe.2.2.1, v with
      | 0, .int z => some (sI s 0 k z)
      | 1, .int z => some (sI s 0 k (z &&& 1))
      | 2, .long z => some (sL s 0 k z)
      | _, _ => none
def newF (P : Cl) (t : ArrayType) (cd : Cd) (pc c : Nat) (st : List Value) : Bool :=
  match st with
  | [.int n, .ref 0] => match fetch cd (pc + 2) with
    | some (.putfield x, 3) => match asc P.fx x with
      | some k => match asc P.fs k with
        | some fe => match P.al[c]? with
          | some (tt, N) => decide (fe.2.2.1 = c + 3 ∧ t = atOf tt ∧ 0 ≤ n.toInt ∧ n.toInt = N ∧ N < 1000000)
          | none => false
        | none => false
      | none => false
    | _ => false
  | _ => false
def lda (P : Cl) (tt c : Nat) (st : List Value) (s : St) : Option (List Value) :=
  match st with
  | .int i :: .ref (a + 1) :: r => match P.al[a]? with
    | some (t2, N) => if t2 = tt ∧ a < c then (if inb N i then some ((if tt = 2 then .long (gL s (a + 1) (ix i)) else .int (gI s (a + 1) (ix i))) :: r) else none) else none
    | none => none
  | _ => none
def sta (P : Cl) (tt c : Nat) (st : List Value) (s : St) : Option (List Value × St) :=
  match st with
  | v :: .int i :: .ref (a + 1) :: r => match P.al[a]? with
    | some (t2, N) => if t2 = tt ∧ a < c then (if inb N i then (match tt, v with
        | 0, .int z => some (r, sI s (a + 1) (ix i) z)
        | 1, .int z => some (r, sI s (a + 1) (ix i) (z &&& 1))
        | 2, .long z => some (r, sL s (a + 1) (ix i) z)
        | _, _ => none) else none) else none
    | none => none
  | _ => none
def cstep {α : Type} (P : Cl) (mi : Nat) (me : Me) (rt : Option Value → St → Option α) (cl : Nat → Nat → List Value → St → Rs) (k : Nat → Nat → Lv → List Value → St → Option α) (i : Instr) (c pc : Nat) (ls : Lv) (st : List Value) (s : St) : Option α :=
  match i with
  | .getfield x => match st with
    | .ref 0 :: r => (match gfld P x c s with | some v => k c (pc + 3) ls (v :: r) s | none => none)
    | _ => none
  | .putfield x => match st with
    | v :: .ref 0 :: r => (match pfld P x (mi == 0) v s with | some s' => k c (pc + 3) ls r s' | none => none)
    | _ => none
  | .iaload => match lda P 0 c st s with | some st' => k c (pc + 1) ls st' s | none => none
  | .baload => match lda P 1 c st s with | some st' => k c (pc + 1) ls st' s | none => none
  | .laload => match lda P 2 c st s with | some st' => k c (pc + 1) ls st' s | none => none
  | .iastore => match sta P 0 c st s with | some (st', s') => k c (pc + 1) ls st' s' | none => none
  | .bastore => match sta P 1 c st s with | some (st', s') => k c (pc + 1) ls st' s' | none => none
  | .lastore => match sta P 2 c st s with | some (st', s') => k c (pc + 1) ls st' s' | none => none
  | .newarray t => if mi = 0 ∧ newF P t me.cd pc c st = true then k (c + 1) (pc + 5) ls [] s else none
  | .ldc x => match asc P.kx x with | some (.int z) => k c (pc + 2) ls (.int z :: st) s | _ => none
  | .ldc2_w x => match asc P.kx x with | some (.long z) => k c (pc + 3) ls (.long z :: st) s | _ => none
  | .invokespecial x => match st with
    | .ref 0 :: r => if x = P.oi ∧ 1 ≤ me.rf ∧ cats r + 12 ≤ me.rl then k c (pc + 3) ls r s else none
    | _ => none
  | .invokevirtual x => match asc P.mx x with
    | none => none
    | some m' => match asc P.ms m' with
      | none => none
      | some me' => match st.drop me'.na with
        | .ref 0 :: r => if m' ≠ 0 ∧ me'.rf + 1 ≤ me.rf ∧ cats r + (me'.ml + 11) + me'.rl ≤ me.rl ∧ nd (st.take me'.na) = true then
            (match cl m' c (.ref 0 :: (st.take me'.na).reverse) s with
             | some (none, s') => k c (pc + 3) ls r s'
             | some (some v, s') => k c (pc + 3) ls (v :: r) s'
             | none => none) else none
        | _ => none
  | i => if isRet i = true then (if mi = 0 ∧ c ≠ P.al.length then none else match cret me st i with | some v => rt v s | none => none)
    else match pstep i pc ls st with | some (pc', ls', st') => k c pc' ls' st' s | none => none
def cexec (P : Cl) : Nat → Nat → Me → Nat → Nat → Lv → List Value → St → Rs
  | 0, _, _, _, _, _, _, _ => none
  | f + 1, mi, me, c, pc, ls, st, s => match fetch me.cd pc with
    | none => none
    | some (i, _) => cstep P mi me (fun v s => some (v, s)) (fun m' c as s => match asc P.ms m' with | some me' => (if (layA as).length ≤ me'.ml then cexec P f m' me' c 0 (lay as me'.ml) [] s else none) | none => none) (cexec P f mi me) i c pc ls st s
def ccall (P : Cl) (f m' c : Nat) (as : List Value) (s : St) : Rs := match asc P.ms m' with | some me' => (if (layA as).length ≤ me'.ml then cexec P f m' me' c 0 (lay as me'.ml) [] s else none) | none => none
end Jvm.LM

namespace Jvm.LM
open Sem ClassFile Op Lib Jvm.Stand Jvm.Free Jvm.LawKit Jvm.RoadKit
/-! how the machine's state stands in the heap -/
theorem adr_ne (a j : Nat) : a + (j + 1) ≠ a := by omega
theorem adr_ne' (a j : Nat) : a ≠ a + (j + 1) := by omega
theorem adr_ne2 (a : Nat) {j k : Nat} (h : j ≠ k) : a + (j + 1) ≠ a + (k + 1) := by omega
def Fval (adr c : Nat) (s : St) (k : Nat) (fe : Fe) : Value :=
  match fe.2.2.1 with
  | 0 => .int (gI s 0 k)
  | 1 => .int (gI s 0 k)
  | 2 => .long (gL s 0 k)
  | j + 3 => if j < c then .ref (adr + (j + 1)) else .null
def elv (tt : Nat) (s : St) (j i : Nat) : Value := if tt = 2 then .long (gL s j i) else .int (gI s j i)
def ARep (Z : State) (h : Heap) (a tt N : Nat) (s : St) (j : Nat) : Prop :=
  ∃ cl : Cell, Arr Z h a cl (tyOf tt) ∧ cl.slots.size = N ∧ ∀ i, i < N → cl.slots[i]? = some (elv tt s j i)
def HRep (P : Cl) (Z : State) (h : Heap) (adr c : Nat) (s : St) : Prop :=
  Exa Z h adr P.nm ∧ (∀ k fe, asc P.fs k = some fe → Fld Z h adr P.nm fe.1 fe.2.1 (Fval adr c s k fe)) ∧
  (∀ (j tt N : Nat), P.al[j]? = some (tt, N) → j < c → ARep Z h (adr + (j + 1)) tt N s (j + 1)) ∧
  (∀ j i, c < j → gI s j i = 0 ∧ gL s j i = 0) ∧ c ≤ P.al.length
def fkTy (P : Cl) : Nat → FieldType
  | 0 => .int
  | 1 => .boolean
  | 2 => .long
  | j + 3 => .array (tyOf ((P.al[j]?.map (·.1)).getD 0))
def yOf (P : Cl) (me : Me) : MethodName := ⟨P.nm, me.nm, me.ds⟩
def LinkC (P : Cl) (Z : State) (a0 : Array Value) : Prop :=
  ((∃ nF, (Cond.instantiable P.nm nF).before a0 Z = true) ∧ (Cond.initialized P.nm).before a0 Z = true) ∧
  (∀ x k, asc P.fx x = some k → ∀ fe, asc P.fs k = some fe → (Cond.fieldLink P.nm x P.nm fe.1 fe.2.1).before a0 Z = true) ∧
  (∀ k fe, asc P.fs k = some fe → (if fe.2.2.2 = true then Cond.laysFinal P.nm P.nm fe.1 fe.2.1 else Cond.lays P.nm P.nm fe.1 fe.2.1).before a0 Z = true) ∧
  (∀ k fe, asc P.fs k = some fe → parseFieldDescriptor fe.2.1 = some (fkTy P fe.2.2.1)) ∧
  (∀ k k' fe fe', asc P.fs k = some fe → asc P.fs k' = some fe' → k ≠ k' → fe.1 ≠ fe'.1 ∧ (3 ≤ fe.2.2.1 → fe.2.2.1 ≠ fe'.2.2.1)) ∧
  (∀ (j tt N : Nat), P.al[j]? = some (tt, N) → tt ≤ 2 ∧ (Cond.arrayClass (tyOf tt)).before a0 Z = true) ∧
  (∀ x v, asc P.kx x = some v → match v with
    | .int z => (Cond.constant P.nm x z).before a0 Z = true
    | .long z => (Cond.constantLong P.nm x z).before a0 Z = true
    | _ => True) ∧
  ((Cond.methodLink P.nm P.oi Lib.objectInit).before a0 Z = true ∧ (Cond.instanceMethod Lib.objectInit).before a0 Z = true ∧ (Cond.code Lib.objectInit ⟨#[0xb1]⟩ 1 none).before a0 Z = true) ∧
  (∀ mi me, asc P.ms mi = some me → ∃ (bytes : ByteArray) (ps : List FieldType), (Cond.code (yOf P me) bytes me.ml (retOf me.rt)).before a0 Z = true ∧
    (∀ pc i n, fetch me.cd pc = some (i, n) → decode bytes pc = .ok (i, n) ∧ (isSw i = true ∨ n = ilen i)) ∧ parseMethodDescriptor me.ds = some ⟨ps, retOf me.rt⟩ ∧ ps.length = me.na) ∧
  (∀ x mi, asc P.mx x = some mi → ∀ me, asc P.ms mi = some me → (Cond.methodLink P.nm x (yOf P me)).before a0 Z = true ∧ (Cond.instanceMethod (yOf P me)).before a0 Z = true ∧
    ((Cond.privateMethod (yOf P me)).before a0 Z = true ∨ ((Cond.declares (yOf P me)).before a0 Z = true ∧ (Cond.selects P.nm (yOf P me) (yOf P me)).before a0 Z = true))) ∧
  plainName P.nm = true ∧ (P.nm ≠ "java/lang/invoke/MethodHandle" ∧ P.nm ≠ "java/lang/invoke/VarHandle") ∧ (∀ me, asc P.ms 0 = some me → me.nm = "<init>")
theorem gI_sI (s : St) (c j : Nat) (v : Int32) (a b : Nat) : gI (sI s c j v) a b = if a = c ∧ b = j then v else gI s a b := rfl
theorem gL_sI (s : St) (c j : Nat) (v : Int32) (a b : Nat) : gL (sI s c j v) a b = gL s a b := rfl
theorem gI_sL (s : St) (c j : Nat) (v : Int64) (a b : Nat) : gI (sL s c j v) a b = gI s a b := rfl
theorem gL_sL (s : St) (c j : Nat) (v : Int64) (a b : Nat) : gL (sL s c j v) a b = if a = c ∧ b = j then v else gL s a b := rfl
theorem laid_of {P : Cl} {Z : State} {a0 : Array Value} (LK : LinkC P Z a0) {k : Nat} {fe : Fe} (hk : asc P.fs k = some fe) : Laid Z a0 P.nm P.nm fe.1 fe.2.1 := by
  have q := LK.2.2.1 k fe hk
  split at q
  · exact Or.inr q
  · exact Or.inl q
/-- a heap that is alike where the object lies -/
theorem HRep.congr {P : Cl} {Z : State} {h h' : Heap} {adr c : Nat} {s : St} (H : HRep P Z h adr c s) (e : ∀ x, adr ≤ x → x < adr + 1 + P.al.length → h'[x]? = h[x]?) : HRep P Z h' adr c s := by
  obtain ⟨h1, h2, h3, h4, h5⟩ := H
  have ea : h'[adr]? = h[adr]? := e adr (Nat.le_refl _) (by omega)
  refine ⟨?_, fun k fe hk => ?_, fun j tt N hj hc => ?_, h4, h5⟩
  · obtain ⟨cell, k, q1, r⟩ := h1; exact ⟨cell, k, by rw [ea]; exact q1, r⟩
  · obtain ⟨cell, cf, k, i, f, q1, r⟩ := h2 k fe hk; exact ⟨cell, cf, k, i, f, by rw [ea]; exact q1, r⟩
  · obtain ⟨cl, ⟨q1, q2⟩, q3⟩ := h3 j tt N hj hc
    exact ⟨cl, ⟨by rw [e _ (by omega) (by omega)]; exact q1, q2⟩, q3⟩
theorem HRep.putFld {P : Cl} {Z : State} {a0 : Array Value} (LK : LinkC P Z a0) {h h' : Heap} {adr c k : Nat} {fe : Fe} {s s' : St} {v : Value} (H : HRep P Z h adr c s) (hk : asc P.fs k = some fe)
    (W : Wr h h' adr (RoadKit.slotOf Z P.nm fe.1 fe.2.1) v) (hv : v = Fval adr c s' k fe) (hI : ∀ a b, (a ≠ 0 ∨ b ≠ k) → gI s' a b = gI s a b ∧ gL s' a b = gL s a b) : HRep P Z h' adr c s' := by
  obtain ⟨h1, h2, h3, h4, h5⟩ := H
  refine ⟨h1.wr W, fun k2 fe2 hk2 => ?_, fun j tt N hj hc => ?_, fun j i hj => ?_, h5⟩
  · by_cases e : k2 = k
    · subst e; cases hk.symm.trans hk2
      rw [← hv]; exact (h2 _ _ hk).same W
    · have hne := (LK.2.2.2.2.1 _ _ _ _ hk2 hk e).1
      have q := (h2 _ _ hk2).other W (Or.inr (slot_ne (laid_of LK hk2) (laid_of LK hk) hne (LK.2.2.2.1 _ _ hk2) (LK.2.2.2.1 _ _ hk)))
      have e2 : Fval adr c s' k2 fe2 = Fval adr c s k2 fe2 := by
        have := hI 0 k2 (Or.inr e)
        simp only [Fval]; split <;> simp [this.1, this.2]
      rw [e2]; exact q
  · obtain ⟨cl, q1, q2, q3⟩ := h3 j tt N hj hc
    refine ⟨cl, q1.other W (adr_ne _ _), q2, fun i hi => ?_⟩
    have := hI (j + 1) i (Or.inl (by omega))
    rw [q3 i hi]; simp only [elv, this.1, this.2]
  · have := hI j i (Or.inl (by omega))
    rw [this.1, this.2]; exact h4 j i hj
theorem HRep.putArr {P : Cl} {Z : State} {h h' : Heap} {adr c a tt N n : Nat} {s s' : St} {v : Value} (H : HRep P Z h adr c s) (ha : P.al[a]? = some (tt, N)) (hac : a < c) (hn : n < N)
    (W : Wr h h' (adr + (a + 1)) n v) (hv : v = elv tt s' (a + 1) n) (hI : ∀ x y, (x ≠ a + 1 ∨ y ≠ n) → gI s' x y = gI s x y ∧ gL s' x y = gL s x y) : HRep P Z h' adr c s' := by
  obtain ⟨h1, h2, h3, h4, h5⟩ := H
  refine ⟨h1.wr W, fun k fe hk => ?_, fun j tt2 N2 hj hc => ?_, fun j i hj => ?_, h5⟩
  · have q := (h2 _ _ hk).other W (Or.inl (adr_ne' _ _))
    have e2 : Fval adr c s' k fe = Fval adr c s k fe := by
      have := hI 0 k (Or.inl (by omega))
      simp only [Fval]; split <;> simp [this.1, this.2]
    rw [e2]; exact q
  · obtain ⟨cl, q1, q2, q3⟩ := h3 j tt2 N2 hj hc
    by_cases e : j = a
    · subst e; cases ha.symm.trans hj
      refine ⟨cl.setSlot n v, q1.same W, by rw [sz_set]; exact q2, fun i hi => ?_⟩
      by_cases ei : i = n
      · subst ei; rw [← hv]; simp [Cell.setSlot, q2, hi]
      · have := hI (j + 1) i (Or.inr ei)
        have q4 := q3 i hi
        simp only [elv, this.1, this.2] at q4 ⊢
        simp only [Cell.setSlot]
        rw [Array.getElem?_setIfInBounds_ne (fun q => ei q.symm)]; exact q4
    · refine ⟨cl, q1.other W (adr_ne2 _ e), q2, fun i hi => ?_⟩
      have := hI (j + 1) i (Or.inl (by omega))
      rw [q3 i hi]; simp only [elv, this.1, this.2]
  · have := hI j i (Or.inl (by omega))
    rw [this.1, this.2]; exact h4 j i hj
theorem HRep.newArr {P : Cl} {Z : State} {a0 : Array Value} (LK : LinkC P Z a0) {h h1 h2 : Heap} {adr c k tt N : Nat} {fe : Fe} {s : St} {n : Int32} {cA : ClassId} (H : HRep P Z h adr c s) (hk : asc P.fs k = some fe) (hkd : fe.2.2.1 = c + 3)
    (ha : P.al[c]? = some (tt, N)) (hn0 : 0 ≤ n.toInt) (hn : n.toInt = N) (hsz : h.size = adr + 1 + c) (E : Ext h h1) (A : Arr Z h1 h.size (newA cA (tyOf tt) n) (tyOf tt)) (W : Wr h1 h2 adr (RoadKit.slotOf Z P.nm fe.1 fe.2.1) (.ref h.size)) : HRep P Z h2 adr (c + 1) s := by
  obtain ⟨g1, g2, g3, g4, g5⟩ := H
  have hc : c < P.al.length := (List.getElem?_eq_some_iff.mp ha).1
  have hNn : n.toNatClampNeg = N := by simp only [Int32.toNatClampNeg]; omega
  have htt := (LK.2.2.2.2.2.1 _ _ _ ha).1
  refine ⟨(g1.ext E).wr W, fun k2 fe2 hk2 => ?_, fun j tt2 N2 hj hjc => ?_, fun j i hj => g4 j i (by omega), hc⟩
  · by_cases e : k2 = k
    · subst e; cases hk.symm.trans hk2
      have q := ((g2 _ _ hk).ext E).same W
      have e2 : Fval adr (c + 1) s k2 fe = .ref h.size := by simp only [Fval, hkd]; rw [if_pos (Nat.lt_succ_self c), hsz]; exact congrArg Value.ref (show adr + (c + 1) = adr + 1 + c by omega)
      rw [e2]; exact q
    · have hne := LK.2.2.2.2.1 _ _ _ _ hk2 hk e
      have q := ((g2 _ _ hk2).ext E).other W (Or.inr (slot_ne (laid_of LK hk2) (laid_of LK hk) hne.1 (LK.2.2.2.1 _ _ hk2) (LK.2.2.2.1 _ _ hk)))
      have e2 : Fval adr (c + 1) s k2 fe2 = Fval adr c s k2 fe2 := by
        simp only [Fval]; split
        · rfl
        · rfl
        · rfl
        · rename_i j hj
          have : j ≠ c := fun q => (hne.2 (by rw [hj]; omega)) (by rw [hj, hkd, q])
          by_cases b : j < c
          · rw [if_pos b, if_pos (by omega)]
          · rw [if_neg b, if_neg (by omega)]
      rw [e2]; exact q
  · by_cases e : j = c
    · subst e; cases ha.symm.trans hj
      have hA : Arr Z h2 h.size (newA cA (tyOf tt) n) (tyOf tt) := A.other W (show h.size ≠ adr by omega)
      refine ⟨newA cA (tyOf tt) n, by rw [show adr + (j + 1) = h.size by omega]; exact hA, by rw [sz_new]; exact hNn, fun i hi => ?_⟩
      have z := g4 (j + 1) i (by omega)
      simp only [newA, hNn, elv, z.1, z.2]
      rw [Array.getElem?_replicate, if_pos hi]
      have : tt = 0 ∨ tt = 1 ∨ tt = 2 := by omega
      rcases this with rfl | rfl | rfl <;> rfl
    · obtain ⟨cl, q1, q2, q3⟩ := g3 j tt2 N2 hj (by omega)
      exact ⟨cl, (q1.ext E).other W (adr_ne _ _), q2, q3⟩
/-- outside the object nothing moves -/
def Kp (h0 h : Heap) (adr n : Nat) : Prop := ∀ x, (x < adr ∨ adr + 1 + n ≤ x) → h[x]? = h0[x]?
theorem Kp.wr {h0 h h' : Heap} {adr n a sl : Nat} {v : Value} (K : Kp h0 h adr n) (W : Wr h h' a sl v) (h1 : adr ≤ a) (h2 : a < adr + 1 + n) : Kp h0 h' adr n := fun x hx => by
  obtain ⟨cell, q1, q2, q3, rfl⟩ := W
  rw [Array.getElem?_setIfInBounds_ne (by omega)]; exact K x hx
theorem Kp.ext {h0 h h' : Heap} {adr n : Nat} (K : Kp h0 h adr n) (E : Ext h h') (h1 : h'.size ≤ adr + 1 + n) (h2 : adr ≤ h.size) : Kp h0 h' adr n := fun x hx => by
  rw [← K x hx]
  by_cases b : x < h.size
  · obtain ⟨c, hc⟩ : ∃ c, h[x]? = some c := ⟨h[x], Array.getElem?_eq_getElem b⟩
    rw [hc]; exact E.2 _ _ hc
  · rw [Array.getElem?_eq_none (by omega), Array.getElem?_eq_none (by omega)]
theorem Kp.trans {h0 h h' : Heap} {adr n : Nat} (K : Kp h0 h adr n) (K' : Kp h h' adr n) : Kp h0 h' adr n := fun x hx => (K' x hx).trans (K x hx)
def cRoom (P : Cl) (mi : Nat) (me : Me) : Room := { frames := me.rf, cells := if mi = 0 then P.al.length else 0, slots := if mi = 0 then zs P.al P.al.length else 0, locals := me.rl }
def QC (P : Cl) (Z : State) (n0 adr mi c : Nat) (w : Option Value) (s' : St) (h0 : Heap) (v : Option Value) (h : Heap) (L : List Loc) : Prop :=
  (v = w ∧ ∀ ρ, v.toList.map (va ρ) = v.toList) ∧ Fr n0 L ∧ HRep P Z h adr (if mi = 0 then P.al.length else c) s' ∧ Kp h0 h adr P.al.length ∧ h.size = (if mi = 0 then adr + 1 + P.al.length else h0.size)
/-- the run from S ends, and so -/
def Don (p : Program) (e : Env) (below : List Frame) (s₀ : State) (rm : Room) (Q : Option Value → Heap → List Loc → Prop) (S : State) : Prop :=
  ∃ s₂ o, Steps p.tables e below S s₂ ∧ s₂.status = .running ∧ Ended s₂ below o ∧ ∃ v L, o = .returned v ∧ Q v s₂.heap L ∧ FrameEnd s₀ o s₂ L rm.cells rm.slots
theorem Don.step {p : Program} {e : Env} {below : List Frame} {s₀ : State} {rm : Room} {Q : Option Value → Heap → List Loc → Prop} {S S' : State} (h : ∀ t, Steps p.tables e below S' t → Steps p.tables e below S t) (D : Don p e below s₀ rm Q S') : Don p e below s₀ rm Q S := by
  obtain ⟨s₂, o, h1, h2⟩ := D; exact ⟨s₂, o, h _ h1, h2⟩
def Inv (P : Cl) (Z : State) (n0 adr mi c : Nat) (s : St) (h0 h : Heap) (locs : List Loc) : Prop :=
  HRep P Z h adr c s ∧ Fr n0 locs ∧ Kp h0 h adr P.al.length ∧ h.size = (if mi = 0 then adr + 1 + c else h0.size)
def co (mi c : Nat) : Nat := if mi = 0 then c else 0
def zo (P : Cl) (mi c : Nat) : Nat := if mi = 0 then zs P.al c else 0
/-- what the walk of a body is to show, at a given fuel -/
def CW (P : Cl) (Z : State) (n0 adr f mi : Nat) (me : Me) : Prop :=
  ∀ (p : Program) (l : Launch) (e : Env) (s₀ : State) (m : MethodId) (args : Array Value) (below : List Frame) (meth : Method) (cd : Code) (T : State) (locs : List Loc) (h0 : Heap) (c pc : Nat) (ls : Lv) (st : List Value) (s : St) (v : Option Value) (s' : St) (L : Array Slot),
    p.tables.exec = Jvm.exec → Z.Warmed39 s₀.vm → s₀.vm.findClass P.nm = some m.cls → meth.name = me.nm → meth.sig.returnType = retOf me.rt → cd.maxLocals = me.ml → meth.locks = false → (mi = 0 → s₀.heap.size = adr + 1) →
    (∀ pc i n, fetch me.cd pc = some (i, n) → decode cd.code pc = .ok (i, n) ∧ (isSw i = true ∨ n = ilen i)) →
    cexec P f mi me c pc ls st s = some (v, s') →
    Stand p l e (cRoom P mi me) s₀ m args below meth cd T locs (co mi c) (zo P mi c) →
    Inv P Z n0 adr mi c s h0 T.heap locs → LR (adr + ·) ls L → ls.length = me.ml →
    Don p e below s₀ (cRoom P mi me) (QC P Z n0 adr mi c v s' h0) (T.setTop (mkF m pc L (st.map (va (adr + ·)))))
theorem zs_mono (al : List (Nat × Nat)) {a b : Nat} (h : a ≤ b) : zs al a ≤ zs al b := by
  obtain ⟨d, rfl⟩ := Nat.le.dest h
  simp only [zs]
  rw [List.take_add, List.map_append, List.sum_append]; omega
theorem zs_succ (al : List (Nat × Nat)) {c tt N : Nat} (h : al[c]? = some (tt, N)) : zs al (c + 1) = zs al c + N := by
  simp only [zs, List.take_add_one, h]; simp
theorem zs_le (al : List (Nat × Nat)) (a : Nat) : zs al a ≤ zs al al.length := by
  by_cases h : a ≤ al.length
  · exact zs_mono al h
  · simp only [zs]; rw [List.take_of_length_le (by omega), List.take_of_length_le (Nat.le_refl _)]
    exact Nat.le_refl _
theorem narrow_I (z : Int32) : narrow .int (.int z) = .int z := rfl
theorem inb_not {n : Nat} {i : Int32} (h : inb n i) : ¬ (i < 0 ∨ n ≤ i.toNatClampNeg) := by
  intro q
  simp only [Int32.lt_iff_toInt_lt, Int32.toNatClampNeg, Int32.reduceToInt] at q
  have := h.1; have := h.2
  omega
theorem inb_ix {n : Nat} {i : Int32} (h : inb n i) : ix i < n := by
  have := h.1; have := h.2
  simp only [ix, Int32.toNatClampNeg]; omega
end Jvm.LM

namespace Jvm.LM
open Sem ClassFile Op Lib Jvm.Stand Jvm.Free Jvm.LawKit Jvm.RoadKit
/-! entering a method -/
def slA : List Value → List Slot
  | [] => []
  | v :: r => if v.category = 2 then .val v :: .second :: slA r else .val v :: slA r
theorem foldl_slA (as : List Value) (acc : Array Slot) : as.foldl (fun acc v => if v.category = 2 then (acc.push (.val v)).push .second else acc.push (.val v)) acc = acc ++ (slA as).toArray := by
  induction as generalizing acc with
  | nil => simp [slA]
  | cons v r ih =>
    rw [List.foldl_cons, ih]
    simp only [slA]
    split <;> simp
theorem al_eq (args : Array Value) (n : Nat) : argsToLocals args n = (let filled := args.foldl (init := #[]) fun acc v => if v.category = 2 then (acc.push (.val v)).push .second else acc.push (.val v); filled ++ Array.replicate (n - filled.size) .unset) := rfl
theorem atl_eq (as : List Value) (n : Nat) : argsToLocals as.toArray n = (slA as ++ List.replicate (n - (slA as).length) Slot.unset).toArray := by
  rw [al_eq]
  have : Array.foldl (fun acc v => if v.category = 2 then (acc.push (Slot.val v)).push .second else acc.push (.val v)) #[] as.toArray = (slA as).toArray := by
    rw [List.foldl_toArray, foldl_slA]; simp
  simp only [this]
  simp
theorem wfl_one {x : Slot} {l : List Slot} (h : WFf (fun k => l[k]?)) (hx : x ≠ .second) (hc : ∀ v, x = .val v → v.category ≠ 2) : WFf (fun k => (x :: l)[k]?) := by
  obtain ⟨h1, h2, h3⟩ := h
  refine ⟨fun k v hk hv => ?_, fun k hk => ?_, ?_⟩
  · cases k with
    | zero => simp at hk; exact absurd hv (hc v hk)
    | succ k => simp at hk ⊢; exact h1 k v hk hv
  · cases k with
    | zero => simp at hk; exact absurd (by simpa using hk) h3
    | succ k => simp at hk ⊢; exact h2 k (by simpa using hk)
  · simpa using hx
theorem wfl_two {v : Value} {l : List Slot} (h : WFf (fun k => l[k]?)) (hc : v.category = 2) : WFf (fun k => (Slot.val v :: .second :: l)[k]?) := by
  obtain ⟨h1, h2, h3⟩ := h
  refine ⟨fun k w hk hv => ?_, fun k hk => ?_, by simp⟩
  · match k with
    | 0 => simp
    | 1 => simp at hk
    | k + 2 => simp at hk ⊢; exact h1 k w hk hv
  · match k with
    | 0 => exact ⟨v, by simp, hc⟩
    | 1 => exact absurd (by simpa using hk) h3
    | k + 2 => simp at hk ⊢; exact h2 k (by simpa using hk)
theorem wfl_rep (n : Nat) : WFf (fun k => (List.replicate n Slot.unset)[k]?) := by
  refine ⟨fun k v hk _ => ?_, fun k hk => ?_, ?_⟩
  · simp [List.getElem?_replicate] at hk
  · simp [List.getElem?_replicate] at hk
  · simp [List.getElem?_replicate]
theorem wfl_slA (as : List Value) (r : List Slot) (h : WFf (fun k => r[k]?)) : WFf (fun k => (slA as ++ r)[k]?) := by
  induction as with
  | nil => simpa [slA] using h
  | cons v t ih =>
    simp only [slA]
    split
    · rename_i hc; exact wfl_two ih hc
    · rename_i hc; exact wfl_one ih (by simp) (fun w hw => by cases hw; exact hc)
theorem slA_len (ρ : Nat → Nat) (as : List Value) (hd : ∀ v ∈ as, ∀ x, v ≠ .double x) : (slA (as.map (va ρ))).length = (layA as).length := by
  induction as with
  | nil => rfl
  | cons v t ih =>
    have ih := ih fun w hw => hd w (List.mem_cons_of_mem _ hw)
    cases v <;> simp [slA, layA, va, Value.category, ih]
    exact absurd rfl (hd _ (List.mem_cons_self ..) _)
theorem layA_get {ρ : Nat → Nat} {as : List Value} (hd : ∀ v ∈ as, ∀ x, v ≠ .double x) {k : Nat} {w : Value} (h : (layA as)[k]? = some (some w)) : (slA (as.map (va ρ)))[k]? = some (.val (va ρ w)) := by
  induction as generalizing k with
  | nil => simp [layA] at h
  | cons v t ih =>
    have ih' := fun {k} => ih (k := k) fun w hw => hd w (List.mem_cons_of_mem _ hw)
    cases v
    case long x =>
      simp only [layA] at h
      match k with
      | 0 => simp at h; subst h; simp [slA, va, Value.category]
      | 1 => simp at h
      | k + 2 => simp at h; simpa [slA, va, Value.category] using ih' h
    case double x => exact absurd rfl (hd _ (List.mem_cons_self ..) _)
    all_goals
      simp only [layA] at h
      match k with
      | 0 => simp at h; subst h; simp [slA, va, Value.category]
      | k + 1 => simp at h; simpa [slA, va, Value.category] using ih' h
theorem lay_LR {ρ : Nat → Nat} {as : List Value} (hd : ∀ v ∈ as, ∀ x, v ≠ .double x) {n : Nat} (hn : (layA as).length ≤ n) : LR ρ (lay as n) (argsToLocals (as.map (va ρ)).toArray n) := by
  rw [atl_eq]
  have hl := slA_len ρ as hd
  refine ⟨by simp [lay, hl], fun k w hk => ?_, ?_⟩
  · simp only [lay] at hk
    rw [List.getElem?_append] at hk
    split at hk
    · have := layA_get (ρ := ρ) hd hk
      rw [List.getElem?_toArray, List.getElem?_append_left (by omega)]; exact this
    · simp [List.getElem?_replicate] at hk
  · have := wfl_slA (as.map (va ρ)) (List.replicate (n - (slA (as.map (va ρ))).length) Slot.unset) (wfl_rep _)
    have q : WFf (fun k => ((slA (as.map (va ρ)) ++ List.replicate (n - (slA (as.map (va ρ))).length) Slot.unset).toArray)[k]?) := by
      simpa using this
    exact q
theorem lay_len {as : List Value} {n : Nat} (hn : (layA as).length ≤ n) : (lay as n).length = n := by simp [lay]; omega
section Call
variable {p : Program} {l : Launch} {e : Env} {R : Room} {s : State} {m : MethodId} {args : Array Value} {below : List Frame} {meth : Method} {c : Code} {T : State} {locs : List Loc} {cells slots : Nat}
/-- a private method of a class that is no interface -/
theorem privCall (X : Stand p l e R s m args below meth c T locs cells slots) (hexec : p.tables.exec = Jvm.exec) {own : String} {index : Nat} {y : MethodName} {bytes : ByteArray} {maxL nF : Nat} {ret : Option FieldType}
    (hown : s.vm.findClass own = some m.cls) (hlink : (Cond.methodLink own index y).before args s = true) (hinst : (Cond.instanceMethod y).before args s = true) (hi : (Cond.instantiable y.cls nF).before args s = true)
    (hpriv : s.PrivateAt y) (hcode : (Cond.code y bytes maxL ret).before args s = true) (hy : y.cls ≠ "java/lang/invoke/MethodHandle" ∧ y.cls ≠ "java/lang/invoke/VarHandle")
    {W : Nat} {Pre : Free.Pt → Array Value → Prop} {Post : Free.Pt → Array Value → Option Value → Free.Pt → Prop} (hK : Free.Back l R p e below s args y 3 W Pre Post)
    {g : JFrame} (hg : g.method = m) (hsize : g.locals.size = c.maxLocals) {a : Addr} {cell : Cell} (hcell : T.heap[a]? = some cell) (hobj : ∀ q, cell.vm ≠ .statics q)
    {argsL rest : List Value} (hlen : ∀ sig, parseMethodDescriptor y.desc = some sig → argsL.length = sig.parameters.length)
    (hstack : g.stack = argsL.reverse ++ .ref a :: rest) (hW : 2 * g.monitorRoom + (rest.map fun v => v.category).sum ≤ W) (hdg : decode c.code g.pc = .ok (.invokevirtual index, 3))
    (hpre : ∀ vm₁, s.WarmedH vm₁ → Pre ⟨T.setVm vm₁, locs, cells, slots⟩ (.ref a :: argsL).toArray) :
    ∃ (v : Option Value) (vm₁ : Vm) (B : Free.Pt), s.WarmedH vm₁ ∧ Stand p l e R s m args below meth c B.U B.locs B.cells B.slots ∧ Post ⟨T.setVm vm₁, locs, cells, slots⟩ (.ref a :: argsL).toArray v B ∧
      Steps p.tables e below (T.setTop g) (B.U.setTop { g with pc := g.pc + 3, stack := v.toList ++ rest }) := by
  obtain ⟨mk, mM, hnamed, hmM, hst, hab⟩ := Cond.instanceMethod_spec hinst
  obtain ⟨mM', cM, hmM', -, -, -, -, -, -, hsig⟩ := Cond.code_spec hnamed hcode
  cases hmM.symm.trans hmM'
  obtain ⟨cc, kk, i1, i2, -, i4, -⟩ := Cond.instantiable_spec hi
  cases (findClass_of_methodNamed hnamed).symm.trans i1
  have hni : kk.isInterface = false := by
    cases q : kk.isInterface
    · rfl
    · rw [q] at i4; simp at i4
  have hsel : selectMethod e.platform s.vm cell.cls mk = .method mk := selectMethod_private hmM (hpriv mk mM hnamed hmM)
  obtain ⟨vm₁, X₁, hstep⟩ := X.invokevirtual hexec hown hlink hnamed hmM hst i2 hni hy hcell hobj hsel hmM hab i2 hni (g := g) hg (hlen _ hsig) hstack hdg
  obtain ⟨v, B, X', hpost, hs⟩ := hK m meth c ⟨T.setVm vm₁, locs, cells, slots⟩ { g with stack := rest } (.invokevirtual index) mk (.ref a :: argsL).toArray X₁ hg hsize hdg hW (X₁.named hnamed) (hpre vm₁ X₁.warmed)
  exact ⟨v, vm₁, B, X₁.warmed, X', hpost, hstep _ fun acts => by rw [doInvoke_state]; exact hs⟩
end Call
theorem cats_va (ρ : Nat → Nat) (st : List Value) : ((st.map (va ρ)).map fun v => v.category).sum = cats st := by
  simp only [cats, List.map_map]; congr 1; exact List.map_congr_left fun v _ => cat_va ρ v
/-- what a method of the class keeps, as a contract, from its walk -/
theorem met_of_CW {P : Cl} {Z : State} {a0 : Array Value} (LK : LinkC P Z a0) {n0 adr f mi : Nat} {me : Me} (hme : asc P.ms mi = some me) (hW : CW P Z n0 adr f mi me) (l : Launch) {bytes : ByteArray}
    (hdec : ∀ pc i n, fetch me.cd pc = some (i, n) → decode bytes pc = .ok (i, n) ∧ (isSw i = true ∨ n = ilen i))
    {as : List Value} (hd : ∀ v ∈ as, ∀ x, v ≠ .double x) (hlen : (layA as).length ≤ me.ml) {c : Nat} {s s' : St} {v : Option Value} {h : Heap} (hr : cexec P f mi me c 0 (lay as me.ml) [] s = some (v, s')) (hc : mi = 0 → c = 0)
    (H : HRep P Z h adr c s) (hsz : mi = 0 → h.size = adr + 1) :
    MetFree l (yOf P me) (head1 [Cond.code (yOf P me) bytes me.ml (retOf me.rt)] (cRoom P mi me)) (fun a U => a = (as.map (va (adr + ·))).toArray ∧ Z.Warmed39 U.vm ∧ U.heap = h) (fun _ _ _ _ _ => True)
      (fun _ U o U' => ∃ w L, o = .returned w ∧ QC P Z n0 adr mi c v s' h w U'.heap L ∧ FrameEnd U o U' L (cRoom P mi me).cells (cRoom P mi me).slots) := by
  refine MetFree.of_bodySF (plainFor_of_name LK.2.2.2.2.2.2.2.2.2.2.1) hisR ?_
  intro p e s₀ m args below meth cd s₁ Bd hml hP hK
  obtain ⟨rfl, hZ, hh⟩ := hP
  have e0 : s₁.heap = h := by rw [← hh, Bd.state]; rfl
  have X0 : Stand p l e (cRoom P mi me) s₀ m _ below meth cd s₁ [] 0 0 := Stand.of_body Bd
  have hown : s₀.vm.findClass P.nm = some m.cls := findClass_of_methodNamed Bd.named
  have hnm : meth.name = me.nm := (name_of_methodNamed Bd.named Bd.method).1
  have hk0 : co mi c = 0 := by simp only [co]; split; · rename_i q; exact hc q
                               · rfl
  have hz0 : zo P mi c = 0 := by
    simp only [zo]; split
    · rename_i q; rw [hc q]; simp [zs]
    · rfl
  have D := hW p l e s₀ m _ below meth cd s₁ [] h c 0 (lay as me.ml) [] s v s' _ Bd.exec hZ hown hnm Bd.returns hml Bd.notSynchronized (fun q => by rw [hh]; exact hsz q)
    (fun pc i n q => by rw [Bd.bytes]; exact hdec pc i n q) hr (by rw [hk0, hz0]; exact X0)
    ⟨by rw [e0]; exact H, Fr.nil n0, by rw [e0]; exact fun x _ => rfl, by
      rw [e0]; split
      · rename_i q; rw [hsz q, hc q]
      · rfl⟩ (lay_LR hd hlen) (lay_len hlen)
  obtain ⟨s₂, o, a1, a2, a3, w, L, a4, a5, a6⟩ := D
  exact ⟨s₂, o, a1, a2, a3, w, L, a4, a5, a6⟩
end Jvm.LM

namespace Jvm.LM
open Sem ClassFile Op Lib Jvm.Stand Jvm.Free Jvm.LawKit Jvm.RoadKit
section Steps
variable {p : Program} {l : Launch} {e : Env} {R : Room} {s₀ : State} {m : MethodId} {args : Array Value} {below : List Frame} {meth : Method} {cd : Code} {T : State} {locs : List Loc} {cells slots : Nat}
variable {P : Cl} {Z : State} {a0 : Array Value} {n0 adr c mi : Nat} {s s' : St} {h0 : Heap}
theorem gfld_val {x : Nat} {w : Value} (hg : gfld P x c s = some w) : ∃ k fe, asc P.fx x = some k ∧ asc P.fs k = some fe ∧ Fval adr c s k fe = va (adr + ·) w := by
  unfold gfld at hg
  split at hg
  · cases hg
  · rename_i k e1
    split at hg
    · cases hg
    · rename_i fe e2
      refine ⟨k, fe, e1, e2, ?_⟩
      simp only [Fval]
      split at hg
      · rename_i e3; cases hg; first | rfl | (rw [e3]; rfl)
      · rename_i e3; cases hg; first | rfl | (rw [e3]; rfl)
      · rename_i e3; cases hg; first | rfl | (rw [e3]; rfl)
      · rename_i j e3
        split at hg
        · rename_i e4; cases hg; first | (simp only [if_pos e4]; rfl) | (rw [e3]; simp only [if_pos e4]; rfl)
        · cases hg
theorem st_get (LK : LinkC P Z a0) (X : Stand p l e R s₀ m args below meth cd T locs cells slots) (hx : p.tables.exec = Jvm.exec) (hZ : Z.Warmed39 s₀.vm) (hown : s₀.vm.findClass P.nm = some m.cls) (H : HRep P Z T.heap adr c s) {x pc : Nat} {w : Value} (hg : gfld P x c s = some w)
    (hd : decode cd.code pc = .ok (.getfield x, 3)) {L : Array Slot} {r : List Value} :
    ∃ T', Stand p l e R s₀ m args below meth cd T' locs cells slots ∧ T'.heap = T.heap ∧ ∀ t, Steps p.tables e below (T'.setTop (mkF m (pc + 3) L (va (adr + ·) w :: r))) t → Steps p.tables e below (T.setTop (mkF m pc L (.ref adr :: r))) t := by
  obtain ⟨k, fe, e1, e2, e3⟩ := gfld_val (adr := adr) hg
  have F := H.2.1 k fe e2
  rw [e3] at F
  exact getF X hx hZ hown (host := "") (Or.inl (LK.2.1 _ _ e1 _ e2)) Via.refl rfl F (g := mkF m pc L (.ref adr :: r)) rfl rfl hd
theorem st_put (LK : LinkC P Z a0) (X : Stand p l e R s₀ m args below meth cd T locs cells slots) (hx : p.tables.exec = Jvm.exec) (hZ : Z.Warmed39 s₀.vm) (hown : s₀.vm.findClass P.nm = some m.cls) (hna : n0 ≤ adr) (I : Inv P Z n0 adr mi c s h0 T.heap locs) {x pc : Nat} {w : Value} {ini : Bool} (hini : ini = true → meth.name = "<init>") (hg : pfld P x ini w s = some s')
    (hd : decode cd.code pc = .ok (.putfield x, 3)) {L : Array Slot} {r : List Value} :
    ∃ T' locs', Stand p l e R s₀ m args below meth cd T' locs' cells slots ∧ Inv P Z n0 adr mi c s' h0 T'.heap locs' ∧ ∀ t, Steps p.tables e below (T'.setTop (mkF m (pc + 3) L r)) t → Steps p.tables e below (T.setTop (mkF m pc L (w :: .ref adr :: r))) t := by
  obtain ⟨H, hFr, hK, hS⟩ := I
  obtain ⟨nF, hnF⟩ := LK.1.1
  unfold pfld at hg
  split at hg
  · cases hg
  · rename_i k e1
    split at hg
    · cases hg
    · rename_i fe e2
      split at hg
      · cases hg
      · rename_i e3
        have hL : (Cond.lays P.nm P.nm fe.1 fe.2.1).before a0 Z = true ∨ ((Cond.laysFinal P.nm P.nm fe.1 fe.2.1).before a0 Z = true ∧ P.nm = P.nm ∧ meth.name = "<init>") := by
          have q := LK.2.2.1 k fe e2
          split at q
          · rename_i e4
            refine Or.inr ⟨q, rfl, hini ?_⟩
            cases ini
            · exact absurd ⟨e4, rfl⟩ e3
            · rfl
          · exact Or.inl q
        have hp := LK.2.2.2.1 k fe e2
        have fin : ∀ {T' : State} {h' : Heap} {v' : Value}, Stand p l e R s₀ m args below meth cd T' (locs ++ [⟨adr, RoadKit.slotOf Z P.nm fe.1 fe.2.1⟩]) cells slots → T'.heap = h' → Wr T.heap h' adr (RoadKit.slotOf Z P.nm fe.1 fe.2.1) v' → v' = Fval adr c s' k fe →
            (∀ a b, (a ≠ 0 ∨ b ≠ k) → gI s' a b = gI s a b ∧ gL s' a b = gL s a b) → Inv P Z n0 adr mi c s' h0 T'.heap (locs ++ [⟨adr, RoadKit.slotOf Z P.nm fe.1 fe.2.1⟩]) := fun {T' h' v'} X' e4 W e5 e6 => by
          rw [e4]
          exact ⟨H.putFld LK e2 W e5 e6, Fr.snoc X' hFr hna, hK.wr W (Nat.le_refl _) (by omega), by rw [W.size]; exact hS⟩
        split at hg
        · rename_i z e4
          cases hg
          rw [e4] at hp
          obtain ⟨T', h', X', q1, W, st⟩ := putF X hx hZ hown (host := "") (Or.inl (LK.2.1 _ _ e1 _ e2)) Via.refl rfl (H.2.1 k fe e2) H.1 hL hnF hp (narrow_I z) rfl (g := mkF m pc L (.int z :: .ref adr :: r)) rfl rfl hd
          refine ⟨T', _, X', fin X' q1 W (by simp only [Fval, e4]; simp [gI_sI]) (fun a b hab => ?_), st⟩
          rw [gI_sI, gL_sI, if_neg (by omega)]; exact ⟨rfl, rfl⟩
        · rename_i z e4
          cases hg
          rw [e4] at hp
          obtain ⟨T', h', X', q1, W, st⟩ := putFN X hx hZ hown (LK.2.1 _ _ e1 _ e2) Via.refl rfl (H.2.1 k fe e2) H.1 hL hnF (v' := .int (z &&& 1)) hp rfl (fits_nar_bool z) (g := mkF m pc L (.int z :: .ref adr :: r)) rfl rfl hd
          refine ⟨T', _, X', fin X' q1 W (by simp only [Fval, e4]; simp [gI_sI]) (fun a b hab => ?_), st⟩
          rw [gI_sI, gL_sI, if_neg (by omega)]; exact ⟨rfl, rfl⟩
        · rename_i z e4
          cases hg
          rw [e4] at hp
          obtain ⟨T', h', X', q1, W, st⟩ := putF X hx hZ hown (host := "") (Or.inl (LK.2.1 _ _ e1 _ e2)) Via.refl rfl (H.2.1 k fe e2) H.1 hL hnF hp rfl rfl (g := mkF m pc L (.long z :: .ref adr :: r)) rfl rfl hd
          refine ⟨T', _, X', fin X' q1 W (by simp only [Fval, e4]; simp [gL_sL]) (fun a b hab => ?_), st⟩
          rw [gL_sL, gI_sL, if_neg (by omega)]; exact ⟨rfl, rfl⟩
        · cases hg
theorem lda_spec {tt : Nat} {st st' : List Value} (hl : lda P tt c st s = some st') : ∃ i a r N, st = .int i :: .ref (a + 1) :: r ∧ P.al[a]? = some (tt, N) ∧ a < c ∧ inb N i ∧ st' = elv tt s (a + 1) (ix i) :: r := by
  unfold lda at hl
  split at hl
  · rename_i i a r
    split at hl
    · rename_i t2 N e1
      split at hl
      · rename_i e2
        obtain ⟨rfl, e3⟩ := e2
        split at hl
        · rename_i e4; cases hl; exact ⟨i, a, r, N, rfl, e1, e3, e4, rfl⟩
        · cases hl
      · cases hl
    · cases hl
  · cases hl
theorem va_elv (ρ : Nat → Nat) (tt : Nat) (s : St) (j i : Nat) : va ρ (elv tt s j i) = elv tt s j i := by unfold elv; split <;> rfl
theorem st_lda (X : Stand p l e R s₀ m args below meth cd T locs cells slots) (hx : p.tables.exec = Jvm.exec) (hZ : Z.Warmed39 s₀.vm) (H : HRep P Z T.heap adr c s) {tt pc : Nat} {st st' : List Value} (hl : lda P tt c st s = some st') {i : Instr}
    (hi : (tt = 0 ∧ i = .iaload) ∨ (tt = 1 ∧ i = .baload) ∨ (tt = 2 ∧ i = .laload)) (hd : decode cd.code pc = .ok (i, 1)) {L : Array Slot} :
    ∀ t, Steps p.tables e below (T.setTop (mkF m (pc + 1) L (st'.map (va (adr + ·))))) t → Steps p.tables e below (T.setTop (mkF m pc L (st.map (va (adr + ·))))) t := by
  obtain ⟨j, a, r, N, rfl, e1, e2, e3, rfl⟩ := lda_spec hl
  obtain ⟨cl, A, hN, hv⟩ := H.2.2.1 a tt N e1 e2
  have hin : ¬ (j < 0 ∨ cl.slots.size ≤ j.toNatClampNeg) := by rw [hN]; exact inb_not e3
  have hat : cl.slots[j.toNatClampNeg]? = some (elv tt s (a + 1) (ix j)) := hv (ix j) (inb_ix e3)
  intro t q
  rw [List.map_cons, va_elv] at q
  rcases hi with ⟨rfl, rfl⟩ | ⟨rfl, rfl⟩ | ⟨rfl, rfl⟩
  · exact X.iaload hx A.1 (State.isArrayOf_alike hZ.alike A.2.1) A.2.2 hin hat (g := mkF m pc L (.int j :: .ref (adr + (a + 1)) :: r.map (va (adr + ·)))) rfl rfl hd t q
  · exact X.baloadBooleans hx A.1 (State.isArrayOf_alike hZ.alike A.2.1) A.2.2 hin hat (g := mkF m pc L (.int j :: .ref (adr + (a + 1)) :: r.map (va (adr + ·)))) rfl rfl hd t q
  · exact X.laload hx A.1 (State.isArrayOf_alike hZ.alike A.2.1) A.2.2 hin hat (g := mkF m pc L (.int j :: .ref (adr + (a + 1)) :: r.map (va (adr + ·)))) rfl rfl hd t q
theorem sta_spec {tt : Nat} {st st' : List Value} (hl : sta P tt c st s = some (st', s')) : ∃ v i a N, st = v :: .int i :: .ref (a + 1) :: st' ∧ P.al[a]? = some (tt, N) ∧ a < c ∧ inb N i ∧
    ((tt = 0 ∧ ∃ z, v = .int z ∧ s' = sI s (a + 1) (ix i) z) ∨ (tt = 1 ∧ ∃ z, v = .int z ∧ s' = sI s (a + 1) (ix i) (z &&& 1)) ∨ (tt = 2 ∧ ∃ z, v = .long z ∧ s' = sL s (a + 1) (ix i) z)) := by
  unfold sta at hl
  split at hl
  · rename_i v i a r
    split at hl
    · rename_i t2 N e1
      split at hl
      · rename_i e2
        obtain ⟨rfl, e3⟩ := e2
        split at hl
        · rename_i e4
          split at hl
          · cases hl; exact ⟨_, i, a, N, rfl, e1, e3, e4, Or.inl ⟨rfl, _, rfl, rfl⟩⟩
          · cases hl; exact ⟨_, i, a, N, rfl, e1, e3, e4, Or.inr (Or.inl ⟨rfl, _, rfl, rfl⟩)⟩
          · cases hl; exact ⟨_, i, a, N, rfl, e1, e3, e4, Or.inr (Or.inr ⟨rfl, _, rfl, rfl⟩)⟩
          · cases hl
        · cases hl
      · cases hl
    · cases hl
  · cases hl
theorem st_sta (X : Stand p l e R s₀ m args below meth cd T locs cells slots) (hx : p.tables.exec = Jvm.exec) (hZ : Z.Warmed39 s₀.vm) (hna : n0 ≤ adr) (I : Inv P Z n0 adr mi c s h0 T.heap locs) {tt pc : Nat} {st st' : List Value} (hl : sta P tt c st s = some (st', s')) {i : Instr}
    (hi : (tt = 0 ∧ i = .iastore) ∨ (tt = 1 ∧ i = .bastore) ∨ (tt = 2 ∧ i = .lastore)) (hd : decode cd.code pc = .ok (i, 1)) {L : Array Slot} :
    ∃ T' locs', Stand p l e R s₀ m args below meth cd T' locs' cells slots ∧ Inv P Z n0 adr mi c s' h0 T'.heap locs' ∧ ∀ t, Steps p.tables e below (T'.setTop (mkF m (pc + 1) L (st'.map (va (adr + ·))))) t → Steps p.tables e below (T.setTop (mkF m pc L (st.map (va (adr + ·))))) t := by
  obtain ⟨H, hFr, hK, hS⟩ := I
  obtain ⟨v, j, a, N, rfl, e1, e2, e3, e4⟩ := sta_spec hl
  obtain ⟨cl, A, hN, hv⟩ := H.2.2.1 a tt N e1 e2
  have hin : ¬ (j < 0 ∨ cl.slots.size ≤ j.toNatClampNeg) := by rw [hN]; exact inb_not e3
  have hal := (List.getElem?_eq_some_iff.mp e1).1
  have fin : ∀ {T' : State} {h' : Heap} {v' : Value}, Stand p l e R s₀ m args below meth cd T' (locs ++ [⟨adr + (a + 1), j.toNatClampNeg⟩]) cells slots → T'.heap = h' → Wr T.heap h' (adr + (a + 1)) j.toNatClampNeg v' → v' = elv tt s' (a + 1) (ix j) →
      (∀ x y, (x ≠ a + 1 ∨ y ≠ ix j) → gI s' x y = gI s x y ∧ gL s' x y = gL s x y) → Inv P Z n0 adr mi c s' h0 T'.heap (locs ++ [⟨adr + (a + 1), j.toNatClampNeg⟩]) := fun {T' h' v'} X' q1 W q2 q3 => by
    rw [q1]
    exact ⟨H.putArr e1 e2 (inb_ix e3) W q2 q3, Fr.snoc X' hFr (by omega), hK.wr W (by omega) (by omega), by rw [W.size]; exact hS⟩
  rcases e4 with ⟨rfl, z, rfl, rfl⟩ | ⟨rfl, z, rfl, rfl⟩ | ⟨rfl, z, rfl, rfl⟩
  · obtain ⟨-, rfl⟩ : (0 : Nat) = 0 ∧ i = .iastore := by rcases hi with q | q | q <;> first | exact q | (have := q.1; omega)
    obtain ⟨T', h', X', q1, W, st⟩ := stI X hx hZ rfl A hin (g := mkF m pc L (.int z :: .int j :: .ref (adr + (a + 1)) :: st'.map (va (adr + ·)))) rfl rfl hd
    refine ⟨T', _, X', fin X' q1 W (by simp [elv, gI_sI, ix]) (fun x y hxy => ?_), st⟩
    rw [gI_sI, gL_sI, if_neg (fun q => hxy.elim (fun z => z q.1) (fun z => z q.2))]; exact ⟨rfl, rfl⟩
  · obtain ⟨-, rfl⟩ : (1 : Nat) = 1 ∧ i = .bastore := by rcases hi with q | q | q <;> first | exact q | (have := q.1; omega)
    obtain ⟨T', h', X', q1, W, st⟩ := stZ X hx hZ rfl A hin (g := mkF m pc L (.int z :: .int j :: .ref (adr + (a + 1)) :: st'.map (va (adr + ·)))) rfl rfl hd
    refine ⟨T', _, X', fin X' q1 W (by simp [elv, gI_sI, ix, nar]) (fun x y hxy => ?_), st⟩
    rw [gI_sI, gL_sI, if_neg (fun q => hxy.elim (fun z => z q.1) (fun z => z q.2))]; exact ⟨rfl, rfl⟩
  · obtain ⟨-, rfl⟩ : (2 : Nat) = 2 ∧ i = .lastore := by rcases hi with q | q | q <;> first | exact q | (have := q.1; omega)
    obtain ⟨T', h', X', q1, W, st⟩ := stJ X hx hZ rfl A hin (g := mkF m pc L (.long z :: .int j :: .ref (adr + (a + 1)) :: st'.map (va (adr + ·)))) rfl rfl hd
    refine ⟨T', _, X', fin X' q1 W (by simp [elv, gL_sL, ix]) (fun x y hxy => ?_), st⟩
    rw [gL_sL, gI_sL, if_neg (fun q => hxy.elim (fun z => z q.1) (fun z => z q.2))]; exact ⟨rfl, rfl⟩
theorem newF_spec {t : ArrayType} {code : Cd} {pc : Nat} {st : List Value} (h : newF P t code pc c st = true) : ∃ n x k fe tt N, st = [.int n, .ref 0] ∧ fetch code (pc + 2) = some (.putfield x, 3) ∧ asc P.fx x = some k ∧ asc P.fs k = some fe ∧ P.al[c]? = some (tt, N) ∧
    fe.2.2.1 = c + 3 ∧ t = atOf tt ∧ 0 ≤ n.toInt ∧ n.toInt = N ∧ N < 1000000 := by
  unfold newF at h
  split at h
  · rename_i n
    split at h
    · rename_i x e1
      split at h
      · rename_i k e2
        split at h
        · rename_i fe e3
          split at h
          · rename_i tt N e4
            obtain ⟨q1, q2, q3, q4, q5⟩ := of_decide_eq_true h
            exact ⟨n, x, k, fe, tt, N, rfl, e1, e2, e3, e4, q1, q2, q3, q4, q5⟩
          · cases h
        · cases h
      · cases h
    · cases h
  · cases h
theorem ty_at {tt : Nat} (h : tt ≤ 2) : newarray.typeOf (atOf tt) = tyOf tt := by
  have : tt = 0 ∨ tt = 1 ∨ tt = 2 := by omega
  rcases this with rfl | rfl | rfl <;> rfl
theorem st_new (LK : LinkC P Z a0) {me : Me} (hme : asc P.ms 0 = some me) (hnm : meth.name = me.nm) (X : Stand p l e (cRoom P 0 me) s₀ m args below meth cd T locs (co 0 c) (zo P 0 c)) (hx : p.tables.exec = Jvm.exec) (hZ : Z.Warmed39 s₀.vm) (hown : s₀.vm.findClass P.nm = some m.cls) (hna : n0 ≤ adr) (hs0 : s₀.heap.size = adr + 1) (I : Inv P Z n0 adr 0 c s h0 T.heap locs)
    (hdec : ∀ pc i n, fetch me.cd pc = some (i, n) → decode cd.code pc = .ok (i, n) ∧ (isSw i = true ∨ n = ilen i)) {t : ArrayType} {pc : Nat} {st : List Value} (h : newF P t me.cd pc c st = true) (hd : decode cd.code pc = .ok (.newarray t, 2)) {L : Array Slot} :
    ∃ T' locs', Stand p l e (cRoom P 0 me) s₀ m args below meth cd T' locs' (co 0 (c + 1)) (zo P 0 (c + 1)) ∧ Inv P Z n0 adr 0 (c + 1) s h0 T'.heap locs' ∧ ∀ t, Steps p.tables e below (T'.setTop (mkF m (pc + 5) L [])) t → Steps p.tables e below (T.setTop (mkF m pc L (st.map (va (adr + ·))))) t := by
  obtain ⟨H, hFr, hK, hS⟩ := I
  obtain ⟨nF, hnF⟩ := LK.1.1
  obtain ⟨n, x, k, fe, tt, N, rfl, e1, e2, e3, e4, e5, rfl, e6, e7, e8⟩ := newF_spec h
  obtain ⟨htt, hac⟩ := LK.2.2.2.2.2.1 _ _ _ e4
  have hal := (List.getElem?_eq_some_iff.mp e4).1
  have hS' : T.heap.size = adr + 1 + c := hS
  have hty := ty_at htt
  have hini : meth.name = "<init>" := by rw [hnm]; exact LK.2.2.2.2.2.2.2.2.2.2.2.2 me hme
  have hLy : (Cond.lays P.nm P.nm fe.1 fe.2.1).before a0 Z = true ∨ ((Cond.laysFinal P.nm P.nm fe.1 fe.2.1).before a0 Z = true ∧ P.nm = P.nm ∧ meth.name = "<init>") := by
    have q := LK.2.2.1 k fe e3
    split at q
    · exact Or.inr ⟨q, rfl, hini⟩
    · exact Or.inl q
  have hzc := zs_succ P.al e4
  have hzm := zs_le P.al (c + 1)
  obtain ⟨T1, hp1, cA, X1, q1, E, A, st1⟩ := newP X hx hZ (aty := atOf tt) (by rw [hty]; exact hac) rfl (g := mkF m pc L [.int n, .ref adr]) rfl hd rfl (by rw [Int32.lt_iff_toInt_lt]; simp only [Int32.reduceToInt]; omega) (cap := N)
    (by simp only [Int32.toNatClampNeg]; omega) (by omega) (by simp only [co, cRoom, if_true]; omega) (by simp only [zo, cRoom, if_true]; omega)
  rw [hty] at A
  have hp := LK.2.2.2.1 k fe e3
  rw [e5] at hp
  obtain ⟨d2, -⟩ := hdec _ _ _ e1
  have hsz1 : hp1.size = adr + 1 + (c + 1) := by
    have hh : T1.heap.size ≤ s₀.heap.size + (c + 1) := X1.heapSize
    have g2 : T.heap.size < Array.size hp1 := A.lt
    rw [q1, hs0] at hh
    rw [hS'] at g2
    omega
  obtain ⟨T2, hp2, X2, q2, W, st2⟩ := putF X1 hx hZ hown (host := "") (Or.inl (LK.2.1 _ _ e2 _ e3)) Via.refl q1 ((H.2.1 k fe e3).ext E) (H.1.ext E) hLy hnF (v := .ref T.heap.size) hp rfl rfl (g := mkF m (pc + 2) L [.ref T.heap.size, .ref adr]) rfl rfl d2
  refine ⟨T2, _, by simpa [co, zo, hzc] using X2, ?_, fun t q => st1 _ (st2 _ q)⟩
  rw [q2]
  refine ⟨H.newArr LK e3 e5 e4 e6 e7 hS' E A W, Fr.snoc X2 hFr hna, ?_, by rw [W.size, hsz1]; simp⟩
  exact (hK.ext E (by rw [hsz1]; omega) (by omega)).wr W (Nat.le_refl _) (by omega)
end Steps
end Jvm.LM

namespace Jvm.LM
open Sem ClassFile Op Lib Jvm.Stand Jvm.Free Jvm.LawKit Jvm.RoadKit
theorem cret_spec {me : Me} {st : List Value} {i : Instr} {v : Option Value} (h : cret me st i = some v) :
    (∃ x, i = .ireturn ∧ st = [.int x] ∧ ((me.rt = 1 ∧ v = some (.int x)) ∨ (me.rt = 2 ∧ v = some (.int (x &&& 1))))) ∨ (∃ x, i = .lreturn ∧ st = [.long x] ∧ me.rt = 3 ∧ v = some (.long x)) ∨ (i = .return_ ∧ st = [] ∧ me.rt = 0 ∧ v = none) := by
  unfold cret at h
  split at h
  · split at h
    · rename_i x
      split at h
      · rename_i e1; cases h; exact Or.inl ⟨x, rfl, rfl, Or.inl ⟨e1, rfl⟩⟩
      · split at h
        · rename_i e1; cases h; exact Or.inl ⟨x, rfl, rfl, Or.inr ⟨e1, rfl⟩⟩
        · cases h
    · cases h
  · split at h
    · rename_i x
      split at h
      · rename_i e1; cases h; exact Or.inr (Or.inl ⟨x, rfl, rfl, e1, rfl⟩)
      · cases h
    · cases h
  · split at h
    · split at h
      · rename_i e1; cases h; exact Or.inr (Or.inr ⟨rfl, rfl, e1, rfl⟩)
      · cases h
    · cases h
  · cases h
section Ret
variable {p : Program} {l : Launch} {e : Env} {R : Room} {s₀ : State} {m : MethodId} {args : Array Value} {below : List Frame} {meth : Method} {cd : Code} {T : State} {locs : List Loc} {cells slots : Nat}
theorem retI' (X : Stand p l e R s₀ m args below meth cd T locs cells slots) (hx : p.tables.exec = Jvm.exec) {pc : Nat} {Ls : Array Slot} {z : Int32} {rest : List Value} (hret : meth.sig.returnType = some .int) (hd : decode cd.code pc = .ok (.ireturn, 1)) {fs : List Frame}
    (hl : ∀ (f : JFrame) (acts : List Action), f.method = m → f.locked = none → f.entered = [] → (doReturn e (T.setTop f) acts (some (.int z))).1 = T.setFrames fs) : Steps p.tables e below (T.setTop (mkF m pc Ls (.int z :: rest))) (T.setFrames fs) :=
  retOut X hx (t := .int) (i := .ireturn) hret rfl (Or.inl ⟨rfl, Or.inl rfl, z, rfl⟩) hd hl
theorem st_ret (X : Stand p l e R s₀ m args below meth cd T locs cells slots) (hx : p.tables.exec = Jvm.exec) {me : Me} (hret : meth.sig.returnType = retOf me.rt) (hlk : meth.locks = false) {ρ : Nat → Nat} {st : List Value} {i : Instr} {v : Option Value} (h : cret me st i = some v) {pc n : Nat} (hd : decode cd.code pc = .ok (i, n)) (hn : isSw i = true ∨ n = ilen i)
    {Q : Option Value → Heap → List Loc → Prop} (hQ : Q v T.heap locs) (hc : cells ≤ R.cells) (hs : slots ≤ R.slots) {L : Array Slot} : Don p e below s₀ R Q (T.setTop (mkF m pc L (st.map (va ρ)))) := by
  rcases cret_spec h with ⟨x, rfl, rfl, h1⟩ | ⟨x, rfl, rfl, h1, rfl⟩ | ⟨rfl, rfl, h1, rfl⟩
  · obtain rfl := hn.resolve_left Bool.false_ne_true
    rcases h1 with ⟨h1, rfl⟩ | ⟨h1, rfl⟩
    · rw [h1] at hret
      obtain ⟨fs, hr, hrun, hended, hW, hsame⟩ := X.leave (v := some (.int x)) (fun q => by rw [hret] at q; cases q) hlk
      exact ⟨_, _, retI' X hx hret hd hr, hrun, hended, _, _, rfl, hQ, ⟨_, rfl⟩, hW, hsame.mono hc hs⟩
    · rw [h1] at hret
      obtain ⟨fs, hr, hrun, hended, hW, hsame⟩ := X.leave (v := some (.int (x &&& 1))) (fun q => by rw [hret] at q; cases q) hlk
      exact ⟨_, _, retN X hx (t := .boolean) hret (Or.inl rfl) hd hr, hrun, hended, _, _, rfl, hQ, ⟨_, rfl⟩, hW, hsame.mono hc hs⟩
  · obtain rfl := hn.resolve_left Bool.false_ne_true
    rw [h1] at hret
    obtain ⟨fs, hr, hrun, hended, hW, hsame⟩ := X.leave (v := some (.long x)) (fun q => by rw [hret] at q; cases q) hlk
    exact ⟨_, _, retOut X hx (t := .long) (i := .lreturn) hret rfl (Or.inr (Or.inl ⟨rfl, rfl, x, rfl⟩)) hd hr, hrun, hended, _, _, rfl, hQ, ⟨_, rfl⟩, hW, hsame.mono hc hs⟩
  · obtain rfl := hn.resolve_left Bool.false_ne_true
    rw [h1] at hret
    obtain ⟨fs, hr, hrun, hended, hW, hsame⟩ := X.leave (v := none) (fun _ => rfl) hlk
    exact ⟨_, _, X.returnOut hx hret hd hr, hrun, hended, _, _, rfl, hQ, ⟨_, rfl⟩, hW, hsame.mono hc hs⟩
end Ret
theorem cret_va {me : Me} {st : List Value} {i : Instr} {v : Option Value} (h : cret me st i = some v) (ρ : Nat → Nat) : v.toList.map (va ρ) = v.toList := by
  rcases cret_spec h with ⟨x, rfl, rfl, ⟨-, rfl⟩ | ⟨-, rfl⟩⟩ | ⟨x, rfl, rfl, -, rfl⟩ | ⟨rfl, rfl, -, rfl⟩ <;> rfl
theorem nd_rev {ρ : Nat → Nat} {as : List Value} (h : nd as = true) : ∀ v ∈ (Value.ref 0 :: as.reverse), ∀ x, v ≠ .double x := fun v hv x e => by
  rcases List.mem_cons.mp hv with q | q
  · subst q; cases e
  · exact nd_spec h v (List.mem_reverse.mp q) x e
theorem pfld_va {P : Cl} {x : Nat} {ini : Bool} {w : Value} {s s1 : St} (hg : pfld P x ini w s = some s1) (ρ : Nat → Nat) : va ρ w = w := by
  cases w <;> first | rfl | skip
  exfalso
  unfold pfld at hg
  split at hg
  · cases hg
  · split at hg
    · cases hg
    · split at hg
      · cases hg
      · split at hg
        · rename_i q; cases q
        · rename_i q; cases q
        · rename_i q; cases q
        · cases hg
theorem cwalk {P : Cl} {Z : State} {a0 : Array Value} (LK : LinkC P Z a0) {n0 adr : Nat} (hna : n0 ≤ adr) : ∀ f mi me, asc P.ms mi = some me → CW P Z n0 adr f mi me := by
  intro f
  induction f with
  | zero =>
    intro mi me hme p l e s₀ m args below meth cd T locs h0 c pc ls st s v s' L hx hZ hown hnm hret hml hlk hs0 hdec hr
    cases hr
  | succ f ih =>
    intro mi me hme p l e s₀ m args below meth cd T locs h0 c pc ls st s v s' L hx hZ hown hnm hret hml hlk hs0 hdec hr X I hL hlen
    simp only [cexec] at hr
    split at hr
    · cases hr
    · rename_i i n hf
      obtain ⟨hd, hn⟩ := hdec pc i n hf
      have ihk := ih mi me hme
      have hsize : L.size = cd.maxLocals := by rw [hL.1, hlen, hml]
      obtain ⟨nF, hnF⟩ := LK.1.1
      unfold cstep at hr
      split at hr
      -- getfield
      · obtain rfl := hn.resolve_left Bool.false_ne_true
        split at hr
        · rename_i r
          split at hr
          · rename_i w hg
            obtain ⟨T', X', q1, st⟩ := st_get LK X hx hZ hown I.1 hg hd (L := L) (r := r.map (va (adr + ·)))
            exact Don.step st (ihk p l e s₀ m args below meth cd T' locs h0 c _ ls (w :: r) s v s' L hx hZ hown hnm hret hml hlk hs0 hdec hr X' (by rw [q1]; exact I) hL hlen)
          · cases hr
        · cases hr
      -- putfield
      · obtain rfl := hn.resolve_left Bool.false_ne_true
        split at hr
        · rename_i w r
          split at hr
          · rename_i s1 hg
            have hini : (mi == 0) = true → meth.name = "<init>" := fun q => by
              have q : mi = 0 := by simpa using q
              subst q; rw [hnm]; exact LK.2.2.2.2.2.2.2.2.2.2.2.2 me hme
            have hw : va (adr + ·) w = w := pfld_va hg _
            obtain ⟨T', locs', X', I', st⟩ := st_put LK X hx hZ hown hna I hini hg hd (L := L) (r := r.map (va (adr + ·)))
            refine Don.step (fun t q => ?_) (ihk p l e s₀ m args below meth cd T' locs' h0 c _ ls r s1 v s' L hx hZ hown hnm hret hml hlk hs0 hdec hr X' I' hL hlen)
            have := st t q
            rw [List.map_cons, hw]; exact this
          · cases hr
        · cases hr
      -- loads of arrays
      · obtain rfl := hn.resolve_left Bool.false_ne_true
        split at hr
        · rename_i st' hg
          exact Don.step (st_lda X hx hZ I.1 hg (Or.inl ⟨rfl, rfl⟩) hd) (ihk p l e s₀ m args below meth cd T locs h0 c _ ls st' s v s' L hx hZ hown hnm hret hml hlk hs0 hdec hr X I hL hlen)
        · cases hr
      · obtain rfl := hn.resolve_left Bool.false_ne_true
        split at hr
        · rename_i st' hg
          exact Don.step (st_lda X hx hZ I.1 hg (Or.inr (Or.inl ⟨rfl, rfl⟩)) hd) (ihk p l e s₀ m args below meth cd T locs h0 c _ ls st' s v s' L hx hZ hown hnm hret hml hlk hs0 hdec hr X I hL hlen)
        · cases hr
      · obtain rfl := hn.resolve_left Bool.false_ne_true
        split at hr
        · rename_i st' hg
          exact Don.step (st_lda X hx hZ I.1 hg (Or.inr (Or.inr ⟨rfl, rfl⟩)) hd) (ihk p l e s₀ m args below meth cd T locs h0 c _ ls st' s v s' L hx hZ hown hnm hret hml hlk hs0 hdec hr X I hL hlen)
        · cases hr
      -- stores into arrays
      · obtain rfl := hn.resolve_left Bool.false_ne_true
        split at hr
        · rename_i st' s1 hg
          obtain ⟨T', locs', X', I', st⟩ := st_sta X hx hZ hna I hg (Or.inl ⟨rfl, rfl⟩) hd (L := L)
          exact Don.step st (ihk p l e s₀ m args below meth cd T' locs' h0 c _ ls st' s1 v s' L hx hZ hown hnm hret hml hlk hs0 hdec hr X' I' hL hlen)
        · cases hr
      · obtain rfl := hn.resolve_left Bool.false_ne_true
        split at hr
        · rename_i st' s1 hg
          obtain ⟨T', locs', X', I', st⟩ := st_sta X hx hZ hna I hg (Or.inr (Or.inl ⟨rfl, rfl⟩)) hd (L := L)
          exact Don.step st (ihk p l e s₀ m args below meth cd T' locs' h0 c _ ls st' s1 v s' L hx hZ hown hnm hret hml hlk hs0 hdec hr X' I' hL hlen)
        · cases hr
      · obtain rfl := hn.resolve_left Bool.false_ne_true
        split at hr
        · rename_i st' s1 hg
          obtain ⟨T', locs', X', I', st⟩ := st_sta X hx hZ hna I hg (Or.inr (Or.inr ⟨rfl, rfl⟩)) hd (L := L)
          exact Don.step st (ihk p l e s₀ m args below meth cd T' locs' h0 c _ ls st' s1 v s' L hx hZ hown hnm hret hml hlk hs0 hdec hr X' I' hL hlen)
        · cases hr
      -- newarray and putfield
      · obtain rfl := hn.resolve_left Bool.false_ne_true
        split at hr
        · rename_i hg
          obtain ⟨rfl, hg⟩ := hg
          obtain ⟨T', locs', X', I', st⟩ := st_new LK hme hnm X hx hZ hown hna (hs0 rfl) I hdec hg hd (L := L)
          exact Don.step st (ihk p l e s₀ m args below meth cd T' locs' h0 (c + 1) _ ls [] s v s' L hx hZ hown hnm hret hml hlk hs0 hdec hr X' I' hL hlen)
        · cases hr
      -- constants
      · obtain rfl := hn.resolve_left Bool.false_ne_true
        split at hr
        · rename_i z hg
          exact Don.step (fun t q => X.ldcI hx hown (mv hZ (LK.2.2.2.2.2.2.1 _ _ hg)) (g := mkF m pc L (st.map (va (adr + ·)))) rfl hd q) (ihk p l e s₀ m args below meth cd T locs h0 c _ ls (.int z :: st) s v s' L hx hZ hown hnm hret hml hlk hs0 hdec hr X I hL hlen)
        · cases hr
      · obtain rfl := hn.resolve_left Bool.false_ne_true
        split at hr
        · rename_i z hg
          exact Don.step (fun t q => X.ldc2J hx hown (mv hZ (LK.2.2.2.2.2.2.1 _ _ hg)) (g := mkF m pc L (st.map (va (adr + ·)))) rfl hd q) (ihk p l e s₀ m args below meth cd T locs h0 c _ ls (.long z :: st) s v s' L hx hZ hown hnm hret hml hlk hs0 hdec hr X I hL hlen)
        · cases hr
      -- Object's constructor
      · obtain rfl := hn.resolve_left Bool.false_ne_true
        split at hr
        · rename_i r
          split at hr
          · rename_i hg
            obtain ⟨rfl, hg1, hg2⟩ := hg
            obtain ⟨w1, w2, w3⟩ := LK.2.2.2.2.2.2.2.1
            obtain ⟨T', X', q1, st⟩ := initO X hx hZ hown w1 w2 w3 rfl (g := mkF m pc L (.ref adr :: r.map (va (adr + ·)))) rfl hsize rfl hd hg1 (W := cats r) (by show 2 * 0 + _ ≤ _; rw [cats_va]; omega) hg2
            exact Don.step st (ihk p l e s₀ m args below meth cd T' locs h0 c _ ls r s v s' L hx hZ hown hnm hret hml hlk hs0 hdec hr X' (by rw [q1]; exact I) hL hlen)
          · cases hr
        · cases hr
      -- a call
      · obtain rfl := hn.resolve_left Bool.false_ne_true
        split at hr
        · cases hr
        · rename_i m' hm'
          split at hr
          · cases hr
          · rename_i me' hme'
            split at hr
            · rename_i r hst
              split at hr
              · rename_i hg
                obtain ⟨hg0, hg1, hg2, hg3⟩ := hg
                dsimp only at hr
                rw [hme'] at hr
                dsimp only at hr
                obtain ⟨bytes, ps, hcode, hdec', hpar, hpl⟩ := LK.2.2.2.2.2.2.2.2.1 m' me' hme'
                obtain ⟨w1, w2, w3⟩ := LK.2.2.2.2.2.2.2.2.2.1 _ _ hm' _ hme'
                by_cases hla : (layA (Value.ref 0 :: (st.take me'.na).reverse)).length ≤ me'.ml
                · rw [if_pos hla] at hr
                  cases hcl : cexec P f m' me' c 0 (lay (.ref 0 :: (st.take me'.na).reverse) me'.ml) [] s with
                  | none => rw [hcl] at hr; cases hr
                  | some vs =>
                    obtain ⟨w, s1⟩ := vs
                    rw [hcl] at hr
                    have hr' : cexec P f mi me c (pc + 3) ls (w.toList ++ r) s1 = some (v, s') := by cases w <;> exact hr
                    have hM := met_of_CW LK hme' (ih m' me' hme') l hdec' (as := .ref 0 :: (st.take me'.na).reverse) (nd_rev (ρ := id) hg3) hla hcl (fun q => absurd q hg0) I.1 (fun q => absurd q hg0)
                    have hB := backOf (R := cRoom P mi me) (p := p) (e := e) (below := below) (s := s₀) (args := args) (len := 3) (W := cats r) hM hZ hcode LK.1.2 hg1 hg2
                    have hdl : me'.na < st.length := by
                      have := congrArg List.length hst
                      simp at this; omega
                    have hsp : st = st.take me'.na ++ .ref 0 :: r := by rw [← hst, List.take_append_drop]
                    have hcell := I.1.1.cell
                    obtain ⟨cel, hc1, hc2⟩ := hcell
                    have key : ∃ (v' : Option Value) (U : State) (Lc : List Loc), Stand p l e (cRoom P mi me) s₀ m args below meth cd U (locs ++ Lc) (co mi c) (zo P mi c) ∧ QC P Z n0 adr m' c w s1 T.heap v' U.heap Lc ∧
                        Steps p.tables e below (T.setTop (mkF m pc L (st.map (va (adr + ·))))) (U.setTop (mkF m (pc + 3) L (v'.toList ++ r.map (va (adr + ·))))) := by
                      have hsm : st.map (va (adr + ·)) = ((st.take me'.na).reverse.map (va (adr + ·))).reverse ++ .ref adr :: r.map (va (adr + ·)) := by
                        conv => lhs; rw [hsp]
                        simp [va]
                      have hll : ∀ sig, parseMethodDescriptor (yOf P me').desc = some sig → ((st.take me'.na).reverse.map (va (adr + ·))).length = sig.parameters.length := lenOf hpar (by simp [hpl]; omega)
                      have hpre : ∀ vm₁, s₀.WarmedH vm₁ → ((Value.ref adr :: (st.take me'.na).reverse.map (va (adr + ·))).toArray = ((Value.ref 0 :: (st.take me'.na).reverse).map (va (adr + ·))).toArray ∧ (T.setVm vm₁).heap = T.heap ∧ co mi c + (cRoom P m' me').cells ≤ (cRoom P mi me).cells ∧ zo P mi c + (cRoom P m' me').slots ≤ (cRoom P mi me).slots) := fun vm₁ _ => by
                        refine ⟨by simp [va], rfl, ?_, ?_⟩
                        · simp only [co, cRoom, if_neg hg0]
                          have := I.1.2.2.2.2
                          split <;> omega
                        · simp only [zo, cRoom, if_neg hg0]
                          have := zs_le P.al c
                          split <;> omega
                      have hz1 : (cRoom P m' me').cells = 0 := by simp [cRoom, hg0]
                      have hz2 : (cRoom P m' me').slots = 0 := by simp [cRoom, hg0]
                      rcases w3 with w3 | ⟨w3, w4⟩
                      · obtain ⟨v', vm₁, ⟨U, lo, ce, sl⟩, -, X', ⟨Lc, hQ, l1, l2, l3⟩, stp⟩ := privCall X hx (y := yOf P me') hown (mv hZ w1) (mv hZ w2) (nF := nF) (mv hZ hnF) (Cond.privateMethod_at (mvP hZ w3 (args := args))) (mv hZ hcode) LK.2.2.2.2.2.2.2.2.2.2.2.1 hB (g := mkF m pc L (st.map (va (adr + ·)))) rfl hsize hc1 hc2 hll hsm (by show 2 * 0 + _ ≤ _; rw [cats_va]; omega) hd hpre
                        dsimp only [Pt.U, Pt.locs, Pt.cells, Pt.slots] at X' hQ l1 l2 l3 stp
                        subst l1 l2 l3
                        rw [hz1, hz2] at X'
                        exact ⟨v', U, Lc, X', hQ, stp⟩
                      · obtain ⟨cq, kq, qa, qb, qc⟩ := isOf hZ rfl I.1.1
                        obtain ⟨v', vm₁, ⟨U, lo, ce, sl⟩, -, X', ⟨Lc, hQ, l1, l2, l3⟩, stp⟩ := X.virtualBack hx (y := yOf P me') (z := yOf P me') hown (mv hZ w1) (mv hZ w3) (notFace_of_selects (args := #[]) (mv hZ w4)) (mv hZ w4) (mv hZ w2) LK.2.2.2.2.2.2.2.2.2.2.2.1 hB qa qc (g := mkF m pc L (st.map (va (adr + ·)))) rfl hsize (Steps.refl _) hll hsm (by show 2 * 0 + _ ≤ _; rw [cats_va]; omega) hd hpre
                        dsimp only [Pt.U, Pt.locs, Pt.cells, Pt.slots] at X' hQ l1 l2 l3 stp
                        subst l1 l2 l3
                        rw [hz1, hz2] at X'
                        exact ⟨v', U, Lc, X', hQ, stp⟩
                    obtain ⟨v', U, Lc, X', ⟨⟨rfl, hva⟩, hF', hH', hK', hS'⟩, stp⟩ := key
                    rw [if_neg hg0] at hH' hS'
                    refine Don.step (fun t q => stp.trans ?_) (ihk p l e s₀ m args below meth cd U (locs ++ Lc) h0 c _ ls (v'.toList ++ r) s1 v s' L hx hZ hown hnm hret hml hlk hs0 hdec hr' X' ⟨hH', I.2.1.app hF', I.2.2.1.trans hK', by rw [hS']; exact I.2.2.2⟩ hL hlen)
                    rw [List.map_append, hva] at q; exact q
                · rw [if_neg hla] at hr; cases hr
              · cases hr
            · cases hr
      -- the rest
      · split at hr
        · split at hr
          · cases hr
          · rename_i h1 hcf
            split at hr
            · rename_i w hw
              cases hr
              have hcf' : mi = 0 → c = P.al.length := fun q => Classical.byContradiction fun z => hcf ⟨q, z⟩
              have hA : HRep P Z T.heap adr (if mi = 0 then P.al.length else c) s := by
                by_cases q : mi = 0
                · rw [if_pos q, ← hcf' q]; exact I.1
                · rw [if_neg q]; exact I.1
              have hB : Array.size T.heap = if mi = 0 then adr + 1 + P.al.length else Array.size h0 := by
                rw [I.2.2.2]
                by_cases q : mi = 0
                · rw [if_pos q, if_pos q, ← hcf' q]
                · rw [if_neg q, if_neg q]
              have hC : co mi c ≤ (cRoom P mi me).cells := by
                simp only [co, cRoom]
                by_cases q : mi = 0
                · rw [if_pos q, if_pos q, ← hcf' q]; exact Nat.le_refl _
                · rw [if_neg q, if_neg q]; exact Nat.le_refl _
              have hD : zo P mi c ≤ (cRoom P mi me).slots := by
                simp only [zo, cRoom]
                by_cases q : mi = 0
                · rw [if_pos q, if_pos q]; exact zs_le _ _
                · rw [if_neg q, if_neg q]; exact Nat.le_refl _
              exact st_ret X hx hret hlk hw hd hn ⟨⟨rfl, cret_va hw⟩, I.2.1, hA, I.2.2.1, hB⟩ hC hD
            · cases hr
        · split at hr
          · rename_i pc' ls' st' hp
            obtain ⟨L', hL', hLs, st⟩ := pstep_sound X hx hp hd hn hL
            have hlen' : ls'.length = me.ml := by rw [← hL'.1, hLs, hL.1]; exact hlen
            exact Don.step st (ihk p l e s₀ m args below meth cd T locs h0 c _ ls' st' s v s' L' hx hZ hown hnm hret hml hlk hs0 hdec hr X I hL' hlen')
          · cases hr
end Jvm.LM

namespace Jvm.LM
open Sem ClassFile Op Lib Jvm.Stand Jvm.Free Jvm.LawKit Jvm.RoadKit
/-! the law's machine: several objects of the class, and one array of ints that it only reads -/
/-- class name, pool to own static method, pool to the class's method, pool index of the constructor, of the class, number of its fields, constants, methods, room: cells, slots -/
abbrev Lw := String × List (Nat × Nat) × List (Nat × Nat) × Nat × Nat × Nat × List (Nat × Value) × List (Nat × Me) × Nat × Nat
def Lw.nm (Q : Lw) : String := Q.1
def Lw.sx (Q : Lw) : List (Nat × Nat) := Q.2.1
def Lw.vx (Q : Lw) : List (Nat × Nat) := Q.2.2.1
def Lw.ci (Q : Lw) : Nat := Q.2.2.2.1
def Lw.cx (Q : Lw) : Nat := Q.2.2.2.2.1
def Lw.nf (Q : Lw) : Nat := Q.2.2.2.2.2.1
def Lw.kx (Q : Lw) : List (Nat × Value) := Q.2.2.2.2.2.2.1
def Lw.ms (Q : Lw) : List (Nat × Me) := Q.2.2.2.2.2.2.2.1
def Lw.rc (Q : Lw) : Nat := Q.2.2.2.2.2.2.2.2.1
def Lw.rs (Q : Lw) : Nat := Q.2.2.2.2.2.2.2.2.2
/-- the objects, how many are made, whether one more is being made -/
abbrev Wd := (Nat → St) × Nat × Bool
abbrev Sc := Option (Nat × (Nat → Int32))
abbrev Rw := Option (Option Value × Wd)
def nr : List Value → Bool
  | [] => true
  | .int _ :: r => nr r
  | .long _ :: r => nr r
  | _ => false
theorem nr_map {l : List Value} (h : nr l = true) (ρ : Nat → Nat) : l.map (va ρ) = l := by
  induction l with
  | nil => rfl
  | cons v r ih => cases v <;> first | (simp only [nr] at h; simp [va, ih h]; done) | (simp [nr] at h)
theorem nr_nd {l : List Value} (h : nr l = true) : nd l = true := by
  induction l with
  | nil => rfl
  | cons v r ih => cases v <;> first | (simp only [nr] at h; simp [nd, ih h]; done) | (simp [nr] at h)
def uo (w : Nat → St) (o : Nat) (s : St) : Nat → St := fun i => if i = o then s else w i
def lstep {α : Type} (P : Cl) (Q : Lw) (sc : Sc) (mi : Nat) (me : Me) (rt : Option Value → Wd → Option α) (cc : Nat → Nat → List Value → St → Rs) (cl : Nat → List Value → Wd → Rw) (k : Nat → Lv → List Value → Wd → Option α) (i : Instr) (pc : Nat) (ls : Lv) (st : List Value) (w : Wd) : Option α :=
  match i with
  | .iaload => match sc, st with
    | some (n, g), .int j :: .ref 0 :: r => if inb n j then k (pc + 1) ls (.int (g (ix j)) :: r) w else none
    | _, _ => none
  | .arraylength => match sc, st with
    | some (n, _), .ref 0 :: r => k (pc + 1) ls (.int (Int32.ofNat n) :: r) w
    | _, _ => none
  | .ldc x => match asc Q.kx x with | some (.int z) => k (pc + 2) ls (.int z :: st) w | _ => none
  | .ldc2_w x => match asc Q.kx x with | some (.long z) => k (pc + 3) ls (.long z :: st) w | _ => none
  | .new x => if mi = 0 ∧ x = Q.cx ∧ w.2.2 = false ∧ (w.2.1 + 1) * (P.al.length + 1) ≤ Q.rc ∧ (w.2.1 + 1) * (Q.nf + zs P.al P.al.length) ≤ Q.rs then
      k (pc + 3) ls (.ref (w.2.1 + 1) :: st) (uo w.1 w.2.1 s0, w.2.1, true) else none
  | .invokespecial x => match asc P.ms 0 with
    | none => none
    | some me' => match st.drop me'.na with
      | .ref (o + 1) :: r => if x = Q.ci ∧ mi = 0 ∧ o = w.2.1 ∧ w.2.2 = true ∧ me'.rf + 1 ≤ me.rf ∧ cats r + (me'.ml + 11) + me'.rl ≤ me.rl ∧ nr (st.take me'.na) = true ∧ (w.2.1 + 1) * (P.al.length + 1) ≤ Q.rc ∧ (w.2.1 + 1) * (Q.nf + zs P.al P.al.length) ≤ Q.rs then
          (match cc 0 0 (.ref 0 :: (st.take me'.na).reverse) (w.1 o) with
           | some (none, s') => k (pc + 3) ls r (uo w.1 o s', w.2.1 + 1, false)
           | _ => none) else none
      | _ => none
  | .invokevirtual x => match asc Q.vx x with
    | none => none
    | some m' => match asc P.ms m' with
      | none => none
      | some me' => match st.drop me'.na with
        | .ref (o + 1) :: r => if m' ≠ 0 ∧ o < w.2.1 ∧ me'.rf + 1 ≤ me.rf ∧ cats r + (me'.ml + 11) + me'.rl ≤ me.rl ∧ nr (st.take me'.na) = true then
            (match cc m' P.al.length (.ref 0 :: (st.take me'.na).reverse) (w.1 o) with
             | some (none, s') => k (pc + 3) ls r (uo w.1 o s', w.2.1, w.2.2)
             | some (some v, s') => k (pc + 3) ls (v :: r) (uo w.1 o s', w.2.1, w.2.2)
             | none => none) else none
        | _ => none
  | .invokestatic x => match asc Q.sx x with
    | none => none
    | some m' => match asc Q.ms m' with
      | none => none
      | some me' => if m' ≠ 0 ∧ me'.na ≤ st.length ∧ me'.rf + 1 ≤ me.rf ∧ cats (st.drop me'.na) + (me'.ml + 11) + me'.rl ≤ me.rl ∧ nd (st.take me'.na) = true then
          (match cl m' (st.take me'.na).reverse w with
           | some (none, w') => k (pc + 3) ls (st.drop me'.na) w'
           | some (some v, w') => k (pc + 3) ls (v :: st.drop me'.na) w'
           | none => none) else none
  | i => if isRet i = true then (match cret me st i with | some v => rt v w | none => none)
    else match pstep i pc ls st with | some (pc', ls', st') => k pc' ls' st' w | none => none
def lexec (P : Cl) (Q : Lw) (sc : Sc) : Nat → Nat → Me → Nat → Lv → List Value → Wd → Rw
  | 0, _, _, _, _, _, _ => none
  | f + 1, mi, me, pc, ls, st, w => match fetch me.cd pc with
    | none => none
    | some (i, _) => lstep P Q sc mi me (fun v w => some (v, w)) (ccall P f) (fun m' as w => match asc Q.ms m' with | some me' => (if (layA as).length ≤ me'.ml then lexec P Q sc f m' me' 0 (lay as me'.ml) [] w else none) | none => none) (lexec P Q sc f mi me) i pc ls st w
theorem lexec_cnt {P : Cl} {Q : Lw} {sc : Sc} : ∀ f mi me pc ls st w v w', mi ≠ 0 → lexec P Q sc f mi me pc ls st w = some (v, w') → w'.2 = w.2 := by
  intro f
  induction f with
  | zero => intro mi me pc ls st w v w' _ h; cases h
  | succ f ih =>
    intro mi me pc ls st w v w' h0 h
    simp only [lexec] at h
    split at h
    · cases h
    · unfold lstep at h
      split at h
      · split at h
        · split at h
          · exact ih _ _ _ _ _ _ _ _ h0 h
          · cases h
        · cases h
      · split at h
        · exact ih _ _ _ _ _ _ _ _ h0 h
        · cases h
      · split at h
        · exact ih _ _ _ _ _ _ _ _ h0 h
        · cases h
      · split at h
        · exact ih _ _ _ _ _ _ _ _ h0 h
        · cases h
      · split at h
        · rename_i q; exact absurd q.1 h0
        · cases h
      · split at h
        · cases h
        · split at h
          · split at h
            · rename_i q; exact absurd q.2.1 h0
            · cases h
          · cases h
      · split at h
        · cases h
        · split at h
          · cases h
          · split at h
            · split at h
              · split at h
                · exact (ih _ _ _ _ _ _ _ _ h0 h).trans rfl
                · exact (ih _ _ _ _ _ _ _ _ h0 h).trans rfl
                · cases h
              · cases h
            · cases h
      · split at h
        · cases h
        · split at h
          · cases h
          · rename_i me' hme'
            split at h
            · rename_i hg
              dsimp only at h
              rw [hme'] at h
              dsimp only at h
              split at h
              · rename_i w2 hc
                split at hc
                · exact (ih _ _ _ _ _ _ _ _ h0 h).trans (ih _ _ _ _ _ _ _ _ hg.1 hc)
                · cases hc
              · rename_i u w2 hc
                split at hc
                · exact (ih _ _ _ _ _ _ _ _ h0 h).trans (ih _ _ _ _ _ _ _ _ hg.1 hc)
                · cases hc
              · cases h
            · cases h
      · split at h
        · split at h
          · cases h; rfl
          · cases h
        · split at h
          · exact ih _ _ _ _ _ _ _ _ h0 h
          · cases h
def lcall (P : Cl) (Q : Lw) (sc : Sc) (f m' : Nat) (as : List Value) (w : Wd) : Rw := match asc Q.ms m' with | some me' => (if (layA as).length ≤ me'.ml then lexec P Q sc f m' me' 0 (lay as me'.ml) [] w else none) | none => none
def zOf (Q : Lw) (me : Me) : MethodName := ⟨Q.nm, me.nm, me.ds⟩
def LinkL (P : Cl) (Q : Lw) (Z : State) (a0 : Array Value) : Prop :=
  ((Cond.classLink Q.nm Q.cx P.nm).before a0 Z = true ∧ (Cond.instantiable P.nm Q.nf).before a0 Z = true) ∧
  (∀ me, asc P.ms 0 = some me → (Cond.methodLink Q.nm Q.ci (yOf P me)).before a0 Z = true ∧ (Cond.instanceMethod (yOf P me)).before a0 Z = true ∧ me.rt = 0) ∧
  (∀ x m', asc Q.vx x = some m' → ∀ me, asc P.ms m' = some me → (Cond.methodLink Q.nm x (yOf P me)).before a0 Z = true ∧ (Cond.declares (yOf P me)).before a0 Z = true ∧ (Cond.instanceMethod (yOf P me)).before a0 Z = true ∧ (Cond.selects P.nm (yOf P me) (yOf P me)).before a0 Z = true) ∧
  (∀ x m', asc Q.sx x = some m' → ∀ me, asc Q.ms m' = some me → (Cond.methodLink Q.nm x (zOf Q me)).before a0 Z = true ∧ (Cond.static (zOf Q me)).before a0 Z = true ∧ (Cond.initialized Q.nm).before a0 Z = true) ∧
  (∀ x v, asc Q.kx x = some v → match v with
    | .int z => (Cond.constant Q.nm x z).before a0 Z = true
    | .long z => (Cond.constantLong Q.nm x z).before a0 Z = true
    | _ => True) ∧
  (∀ mi me, asc Q.ms mi = some me → mi ≠ 0 → ∃ (bytes : ByteArray) (ps : List FieldType), (Cond.code (zOf Q me) bytes me.ml (retOf me.rt)).before a0 Z = true ∧
    (∀ pc i n, fetch me.cd pc = some (i, n) → decode bytes pc = .ok (i, n) ∧ (isSw i = true ∨ n = ilen i)) ∧ parseMethodDescriptor me.ds = some ⟨ps, retOf me.rt⟩ ∧ ps.length = me.na) ∧
  plainName Q.nm = true ∧ (Q.nm ≠ "java/lang/invoke/MethodHandle" ∧ Q.nm ≠ "java/lang/invoke/VarHandle")
def rho (a n0 K : Nat) : Nat → Nat
  | 0 => a
  | o + 1 => n0 + o * K
def SRep (Z : State) (h : Heap) (a n0 : Nat) (sc : Sc) : Prop :=
  match sc with
  | none => True
  | some (n, g) => a < n0 ∧ ∃ cl : Cell, Arr Z h a cl .int ∧ cl.slots.size = n ∧ ∀ i, i < n → cl.slots[i]? = some (.int (g i))
def LRep (P : Cl) (Z : State) (h : Heap) (a n0 : Nat) (sc : Sc) (w : Wd) : Prop :=
  SRep Z h a n0 sc ∧ (∀ o, o < w.2.1 → HRep P Z h (n0 + o * (P.al.length + 1)) P.al.length (w.1 o)) ∧
  (w.2.2 = true → HRep P Z h (n0 + w.2.1 * (P.al.length + 1)) 0 (w.1 w.2.1)) ∧ h.size = n0 + w.2.1 * (P.al.length + 1) + (if w.2.2 = true then 1 else 0)
def lRoom (Q : Lw) (mi : Nat) (me : Me) : Room := { frames := me.rf, cells := if mi = 0 then Q.rc else 0, slots := if mi = 0 then Q.rs else 0, locals := me.rl }
def QL (P : Cl) (Z : State) (a n0 : Nat) (sc : Sc) (v : Option Value) (w' : Wd) (u : Option Value) (h : Heap) (L : List Loc) : Prop :=
  (u = v ∧ ∀ ρ, u.toList.map (va ρ) = u.toList) ∧ Fr n0 L ∧ LRep P Z h a n0 sc w'
def lco (P : Cl) (mi : Nat) (w : Wd) : Nat := if mi = 0 then w.2.1 * (P.al.length + 1) + (if w.2.2 = true then 1 else 0) else 0
def lzo (P : Cl) (Q : Lw) (mi : Nat) (w : Wd) : Nat := if mi = 0 then w.2.1 * (Q.nf + zs P.al P.al.length) + (if w.2.2 = true then Q.nf else 0) else 0
def LW (P : Cl) (Q : Lw) (sc : Sc) (Z : State) (a n0 f mi : Nat) (me : Me) : Prop :=
  ∀ (p : Program) (l : Launch) (e : Env) (s₀ : State) (m : MethodId) (args : Array Value) (below : List Frame) (meth : Method) (cd : Code) (T : State) (locs : List Loc) (pc : Nat) (ls : Lv) (st : List Value) (w : Wd) (v : Option Value) (w' : Wd) (L : Array Slot),
    p.tables.exec = Jvm.exec → Z.Warmed39 s₀.vm → s₀.vm.findClass Q.nm = some m.cls → meth.sig.returnType = retOf me.rt → cd.maxLocals = me.ml → meth.locks = false → (mi = 0 → s₀.heap.size = n0) →
    (∀ pc i n, fetch me.cd pc = some (i, n) → decode cd.code pc = .ok (i, n) ∧ (isSw i = true ∨ n = ilen i)) →
    lexec P Q sc f mi me pc ls st w = some (v, w') →
    Stand p l e (lRoom Q mi me) s₀ m args below meth cd T locs (lco P mi w) (lzo P Q mi w) → w.2.1 * (P.al.length + 1) + (if w.2.2 = true then 1 else 0) ≤ (lRoom Q 0 me).cells → w.2.1 * (Q.nf + zs P.al P.al.length) + (if w.2.2 = true then Q.nf else 0) ≤ (lRoom Q 0 me).slots →
    LRep P Z T.heap a n0 sc w → Fr n0 locs → LR (rho a n0 (P.al.length + 1)) ls L → ls.length = me.ml →
    Don p e below s₀ (lRoom Q mi me) (QL P Z a n0 sc v w') (T.setTop (mkF m pc L (st.map (va (rho a n0 (P.al.length + 1))))))
theorem met_of_LW {P : Cl} {Q : Lw} {sc : Sc} {Z : State} {a0 : Array Value} (LL : LinkL P Q Z a0) {a n0 f mi : Nat} {me : Me} (hW : LW P Q sc Z a n0 f mi me) (hmi : mi ≠ 0) (l : Launch) {bytes : ByteArray}
    (hdec : ∀ pc i n, fetch me.cd pc = some (i, n) → decode bytes pc = .ok (i, n) ∧ (isSw i = true ∨ n = ilen i))
    {as : List Value} (hd : ∀ v ∈ as, ∀ x, v ≠ .double x) (hlen : (layA as).length ≤ me.ml) {w w' : Wd} {v : Option Value} {h : Heap} (hr : lexec P Q sc f mi me 0 (lay as me.ml) [] w = some (v, w'))
    (hc1 : w.2.1 * (P.al.length + 1) + (if w.2.2 = true then 1 else 0) ≤ Q.rc) (hc2 : w.2.1 * (Q.nf + zs P.al P.al.length) + (if w.2.2 = true then Q.nf else 0) ≤ Q.rs)
    (H : LRep P Z h a n0 sc w) :
    MetFree l (zOf Q me) (head1 [Cond.code (zOf Q me) bytes me.ml (retOf me.rt)] (lRoom Q mi me)) (fun b U => b = (as.map (va (rho a n0 (P.al.length + 1)))).toArray ∧ Z.Warmed39 U.vm ∧ U.heap = h) (fun _ _ _ _ _ => True)
      (fun _ U o U' => ∃ u L, o = .returned u ∧ QL P Z a n0 sc v w' u U'.heap L ∧ FrameEnd U o U' L (lRoom Q mi me).cells (lRoom Q mi me).slots) := by
  refine MetFree.of_bodySF (plainFor_of_name LL.2.2.2.2.2.2.1) hisR ?_
  intro p e s₀ m args below meth cd s₁ Bd hml hP hK
  obtain ⟨rfl, hZ, hh⟩ := hP
  have e0 : s₁.heap = h := by rw [← hh, Bd.state]; rfl
  have X0 : Stand p l e (lRoom Q mi me) s₀ m _ below meth cd s₁ [] 0 0 := Stand.of_body Bd
  have hown : s₀.vm.findClass Q.nm = some m.cls := findClass_of_methodNamed Bd.named
  have hk0 : lco P mi w = 0 := by simp [lco, hmi]
  have hz0 : lzo P Q mi w = 0 := by simp [lzo, hmi]
  have D := hW p l e s₀ m _ below meth cd s₁ [] 0 (lay as me.ml) [] w v w' _ Bd.exec hZ hown Bd.returns hml Bd.notSynchronized (fun q => absurd q hmi)
    (fun pc i n q => by rw [Bd.bytes]; exact hdec pc i n q) hr (by rw [hk0, hz0]; exact X0) (by simpa [lRoom] using hc1) (by simpa [lRoom] using hc2) (by rw [e0]; exact H) (Fr.nil n0) (lay_LR hd hlen) (lay_len hlen)
  obtain ⟨s₂, o, a1, a2, a3, u, L, a4, a5, a6⟩ := D
  exact ⟨s₂, o, a1, a2, a3, u, L, a4, a5, a6⟩
end Jvm.LM

namespace Jvm.LM
open Sem ClassFile Op Lib Jvm.Stand Jvm.Free Jvm.LawKit Jvm.RoadKit
theorem rng {a b K : Nat} (h : a < b) : a * K + K ≤ b * K := by
  have := Nat.mul_le_mul_right K (show a + 1 ≤ b from h)
  rw [Nat.succ_mul] at this; exact this
theorem SRep.congr {Z : State} {h h' : Heap} {a n0 : Nat} {sc : Sc} (H : SRep Z h a n0 sc) (e : ∀ x, x < n0 → h'[x]? = h[x]?) : SRep Z h' a n0 sc := by
  unfold SRep at H ⊢
  split
  · trivial
  · obtain ⟨h1, cl, ⟨q1, q2⟩, q3⟩ := H
    exact ⟨h1, cl, ⟨by rw [e a h1]; exact q1, q2⟩, q3⟩
/-- one object has moved, the others stand -/
theorem LRep.call {P : Cl} {Z : State} {h h' : Heap} {a n0 o : Nat} {sc : Sc} {w : Wd} {s' : St} (H : LRep P Z h a n0 sc w) (ho : o < w.2.1) (K : Kp h h' (n0 + o * (P.al.length + 1)) P.al.length) (hs : h'.size = h.size) (H' : HRep P Z h' (n0 + o * (P.al.length + 1)) P.al.length s') :
    LRep P Z h' a n0 sc (uo w.1 o s', w.2.1, w.2.2) := by
  obtain ⟨h1, h2, h3, h4⟩ := H
  refine ⟨h1.congr fun x hx => K x (Or.inl (by omega)), fun o' ho' => ?_, fun q => ?_, by rw [hs]; exact h4⟩
  · by_cases e : o' = o
    · subst e; simpa [uo] using H'
    · have := (h2 o' ho').congr (h' := h') fun x hx1 hx2 => K x (by
        rcases Nat.lt_or_gt_of_ne e with q | q
        · have := rng (K := P.al.length + 1) q; omega
        · have := rng (K := P.al.length + 1) q; omega)
      simpa [uo, e] using this
  · have e : w.2.1 ≠ o := by omega
    have := (h3 q).congr (h' := h') fun x hx1 hx2 => K x (by have := rng (K := P.al.length + 1) ho; omega)
    simpa [uo, e] using this
theorem ar1 {x k r y : Nat} (e : y = x + (k + 1)) (h : y ≤ r) : x + 1 + k ≤ r := by omega
theorem ar3 {x k y : Nat} (h : y = x + (k + 1)) : y + 0 = x + 1 + k := by omega
theorem ar4 {x f z y : Nat} (h : y = x + (f + z)) : y + 0 = x + f + z := by omega
theorem ar5 {x f z r y : Nat} (e : y = x + (f + z)) (h : y ≤ r) : x + f + z ≤ r := by omega
theorem ar6 {n x k y : Nat} (h : y = x + (k + 1)) : n + x + 1 + k = n + y + 0 := by omega
theorem lwalk {P : Cl} {Q : Lw} {sc : Sc} {Z : State} {a0 : Array Value} (LK : LinkC P Z a0) (LL : LinkL P Q Z a0) {a n0 : Nat} : ∀ f mi me, asc Q.ms mi = some me → LW P Q sc Z a n0 f mi me := by
  intro f
  induction f with
  | zero =>
    intro mi me hme p l e s₀ m args below meth cd T locs pc ls st w v w' L hx hZ hown hret hml hlk hs0 hdec hr
    cases hr
  | succ f ih =>
    intro mi me hme p l e s₀ m args below meth cd T locs pc ls st w v w' L hx hZ hown hret hml hlk hs0 hdec hr X hc1 hc2 I hFr hL hlen
    simp only [lexec] at hr
    split at hr
    · cases hr
    · rename_i i n hf
      obtain ⟨hd, hn⟩ := hdec pc i n hf
      have ihk := ih mi me hme
      have hsize : L.size = cd.maxLocals := by rw [hL.1, hlen, hml]
      unfold lstep at hr
      split at hr
      -- iaload
      · obtain rfl := hn.resolve_left Bool.false_ne_true
        split at hr
        · rename_i N g j r
          split at hr
          · rename_i hin
            obtain ⟨ha, cl, A, hN, hv⟩ : SRep Z T.heap a n0 (some (N, g)) := I.1
            refine Don.step (fun t q => ?_) (ihk p l e s₀ m args below meth cd T locs _ ls (.int (g (ix j)) :: r) w v w' L hx hZ hown hret hml hlk hs0 hdec hr X hc1 hc2 I hFr hL hlen)
            exact X.iaload hx A.1 (State.isArrayOf_alike hZ.alike A.2.1) A.2.2 (by rw [hN]; exact inb_not hin) (hv (ix j) (inb_ix hin)) (g := mkF m pc L (.int j :: .ref a :: r.map (va (rho a n0 (P.al.length + 1))))) rfl rfl hd t q
          · cases hr
        · cases hr
      -- arraylength
      · obtain rfl := hn.resolve_left Bool.false_ne_true
        split at hr
        · rename_i N g r
          obtain ⟨ha, cl, A, hN, hv⟩ : SRep Z T.heap a n0 (some (N, g)) := I.1
          refine Don.step (fun t q => ?_) (ihk p l e s₀ m args below meth cd T locs _ ls (.int (Int32.ofNat N) :: r) w v w' L hx hZ hown hret hml hlk hs0 hdec hr X hc1 hc2 I hFr hL hlen)
          exact X.arraylength hx A.1 (State.isArrayOf_alike hZ.alike A.2.1) (g := mkF m pc L (.ref a :: r.map (va (rho a n0 (P.al.length + 1))))) rfl rfl hd t (by rw [hN]; exact q)
        · cases hr
      -- constants
      · obtain rfl := hn.resolve_left Bool.false_ne_true
        split at hr
        · rename_i z hg
          exact Don.step (fun t q => X.ldcI hx hown (mv hZ (LL.2.2.2.2.1 _ _ hg)) (g := mkF m pc L (st.map (va (rho a n0 (P.al.length + 1))))) rfl hd q) (ihk p l e s₀ m args below meth cd T locs _ ls (.int z :: st) w v w' L hx hZ hown hret hml hlk hs0 hdec hr X hc1 hc2 I hFr hL hlen)
        · cases hr
      · obtain rfl := hn.resolve_left Bool.false_ne_true
        split at hr
        · rename_i z hg
          exact Don.step (fun t q => X.ldc2J hx hown (mv hZ (LL.2.2.2.2.1 _ _ hg)) (g := mkF m pc L (st.map (va (rho a n0 (P.al.length + 1))))) rfl hd q) (ihk p l e s₀ m args below meth cd T locs _ ls (.long z :: st) w v w' L hx hZ hown hret hml hlk hs0 hdec hr X hc1 hc2 I hFr hL hlen)
        · cases hr
      -- new
      · obtain rfl := hn.resolve_left Bool.false_ne_true
        split at hr
        · rename_i hg
          obtain ⟨rfl, rfl, hp, hg1, hg2⟩ := hg
          obtain ⟨os, cnt, pend⟩ := w
          dsimp only at hp hg1 hg2 hr
          subst hp
          have hk : lco P 0 (os, cnt, false) = cnt * (P.al.length + 1) := by simp [lco]
          have hz : lzo P Q 0 (os, cnt, false) = cnt * (Q.nf + zs P.al P.al.length) := by simp [lzo]
          have m1 : (cnt + 1) * (P.al.length + 1) = cnt * (P.al.length + 1) + (P.al.length + 1) := Nat.succ_mul ..
          have m2 : (cnt + 1) * (Q.nf + zs P.al P.al.length) = cnt * (Q.nf + zs P.al P.al.length) + (Q.nf + zs P.al P.al.length) := Nat.succ_mul ..
          rw [hk, hz] at X
          obtain ⟨T', h', X', q1, E, A, D, -, st1⟩ := newO X hx hZ hown LL.1.1 LL.1.2 LK.1.2 rfl (g := mkF m pc L (st.map (va (rho a n0 (P.al.length + 1))))) rfl hd (by simp only [lRoom, if_true]; omega) (by simp only [lRoom, if_true]; omega)
          obtain ⟨i1, i2, i3, i4⟩ := I
          have hsz : T.heap.size = n0 + cnt * (P.al.length + 1) := by simpa using i4
          have hsz' : h'.size = n0 + cnt * (P.al.length + 1) + 1 := by
            have g1 : T'.heap.size ≤ s₀.heap.size + (cnt * (P.al.length + 1) + 1) := X'.heapSize
            have g2 : T.heap.size < Array.size h' := A.lt
            rw [q1, hs0 rfl] at g1
            rw [hsz] at g2
            omega
          have same : ∀ x, x < T.heap.size → h'[x]? = T.heap[x]? := fun x hx => by
            obtain ⟨cc, hcc⟩ : ∃ cc, T.heap[x]? = some cc := ⟨T.heap[x], Array.getElem?_eq_getElem hx⟩
            rw [hcc]; exact E.2 _ _ hcc
          have I' : LRep P Z T'.heap a n0 sc (uo os cnt s0, cnt, true) := by
            rw [q1]
            refine ⟨i1.congr fun x hx => same x (by omega), fun o ho => ?_, fun _ => ?_, by simpa using hsz'⟩
            · have := (i2 o ho).congr (h' := h') fun x hx1 hx2 => same x (by have := rng (K := P.al.length + 1) (show o < cnt from ho); omega)
              simpa [uo, show o ≠ cnt from Nat.ne_of_lt ho] using this
            · simp only [uo, if_true]
              rw [hsz] at A D
              refine ⟨A, fun k fe hk => ?_, fun j tt N hj hc => absurd hc (Nat.not_lt_zero _), fun j i hj => ⟨rfl, rfl⟩, Nat.zero_le _⟩
              have q := D (laid_of LK hk) (LK.2.2.2.1 k fe hk)
              have e2 : Fval (n0 + cnt * (P.al.length + 1)) 0 s0 k fe = defaultValue (fkTy P fe.2.2.1) := by
                simp only [Fval]; split
                · rename_i e3; rw [e3]; rfl
                · rename_i e3; rw [e3]; rfl
                · rename_i e3; rw [e3]; rfl
                · rename_i e3; rw [e3]; rfl
              rw [e2]; exact q
          refine Don.step (fun t q => st1 t ?_) (ihk p l e s₀ m args below meth cd T' locs _ ls (.ref (cnt + 1) :: st) _ v w' L hx hZ hown hret hml hlk hs0 hdec hr (by simpa [lco, lzo] using X') (by simp only [lRoom, if_true]; omega) (by simp only [lRoom, if_true]; omega) I' hFr hL hlen)
          rw [hsz]; exact q
        · cases hr
      -- the constructor
      · obtain rfl := hn.resolve_left Bool.false_ne_true
        split at hr
        · cases hr
        · rename_i me' hme'
          split at hr
          · rename_i o r hst
            split at hr
            · rename_i hg
              obtain ⟨rfl, rfl, hgo, hp, hg1, hg2, hg3, hg4, hg5⟩ := hg
              obtain ⟨os, cnt, pend⟩ := w
              dsimp only at hgo hp hg1 hg2 hr hg4 hg5
              subst hp hgo
              obtain ⟨bytes, ps, hcode, hdec', hpar, hpl⟩ := LK.2.2.2.2.2.2.2.2.1 0 me' hme'
              obtain ⟨w1, w2, hrt⟩ := LL.2.1 me' hme'
              have hcode' := hcode
              rw [hrt] at hcode'
              have hini := LK.2.2.2.2.2.2.2.2.2.2.2.2 me' hme'
              have m1 : (o + 1) * (P.al.length + 1) = o * (P.al.length + 1) + (P.al.length + 1) := Nat.succ_mul ..
              have m2 : (o + 1) * (Q.nf + zs P.al P.al.length) = o * (Q.nf + zs P.al P.al.length) + (Q.nf + zs P.al P.al.length) := Nat.succ_mul ..
              simp only [ccall, hme'] at hr
              by_cases hla : (layA (Value.ref 0 :: (st.take me'.na).reverse)).length ≤ me'.ml
              · rw [if_pos hla] at hr
                cases hcl : cexec P f 0 me' 0 0 (lay (.ref 0 :: (st.take me'.na).reverse) me'.ml) [] (os o) with
                | none => rw [hcl] at hr; cases hr
                | some vs =>
                  obtain ⟨u, s1⟩ := vs
                  rw [hcl] at hr
                  cases u with
                  | some u => cases hr
                  | none =>
                    dsimp only at hr
                    obtain ⟨i1, i2, i3, i4⟩ := I
                    have hsz : T.heap.size = n0 + o * (P.al.length + 1) + 1 := by simpa using i4
                    have hM := met_of_CW LK hme' (cwalk LK (n0 := n0) (adr := n0 + o * (P.al.length + 1)) (Nat.le_add_right _ _) f 0 me' hme') l hdec' (as := .ref 0 :: (st.take me'.na).reverse) (nd_rev (ρ := id) (nr_nd hg3)) hla hcl (fun _ => rfl) (i3 rfl) (fun _ => hsz)
                    have hB := backOf (R := lRoom Q 0 me) (p := p) (e := e) (below := below) (s := s₀) (args := args) (len := 3) (W := cats r) hM hZ hcode LK.1.2 hg1 hg2
                    have hdl : me'.na < st.length := by
                      have := congrArg List.length hst
                      simp at this; omega
                    have hsp : st = st.take me'.na ++ .ref (o + 1) :: r := by rw [← hst, List.take_append_drop]
                    have hrv : ∀ ρ : Nat → Nat, (st.take me'.na).reverse.map (va ρ) = (st.take me'.na).reverse := fun ρ => by rw [List.map_reverse, nr_map hg3]
                    have hsm : st.map (va (rho a n0 (P.al.length + 1))) = ((st.take me'.na).reverse).reverse ++ .ref (n0 + o * (P.al.length + 1)) :: r.map (va (rho a n0 (P.al.length + 1))) := by
                      conv => lhs; rw [hsp]
                      rw [List.map_append, nr_map hg3]; simp [va, rho]
                    have hll : ∀ sig, parseMethodDescriptor (yOf P me').desc = some sig → ((st.take me'.na).reverse).length = sig.parameters.length := lenOf hpar (by simp [hpl]; omega)
                    have hk : lco P 0 (os, o, true) = o * (P.al.length + 1) + 1 := by simp [lco]
                    have hz : lzo P Q 0 (os, o, true) = o * (Q.nf + zs P.al P.al.length) + Q.nf := by simp [lzo]
                    rw [hk, hz] at X
                    have hpre : ∀ vm₁, s₀.WarmedH vm₁ → ((Value.ref (n0 + o * (P.al.length + 1)) :: (st.take me'.na).reverse).toArray = ((Value.ref 0 :: (st.take me'.na).reverse).map (va ((n0 + o * (P.al.length + 1)) + ·))).toArray ∧ (T.setVm vm₁).heap = T.heap ∧ o * (P.al.length + 1) + 1 + (cRoom P 0 me').cells ≤ (lRoom Q 0 me).cells ∧ o * (Q.nf + zs P.al P.al.length) + Q.nf + (cRoom P 0 me').slots ≤ (lRoom Q 0 me).slots) := fun vm₁ _ => by
                      refine ⟨by rw [List.map_cons, hrv]; rfl, rfl, ?_, ?_⟩
                      · show o * (P.al.length + 1) + 1 + P.al.length ≤ Q.rc
                        exact ar1 m1 hg4
                      · show o * (Q.nf + zs P.al P.al.length) + Q.nf + zs P.al P.al.length ≤ Q.rs
                        exact ar5 m2 hg5
                    obtain ⟨v', vm₁, ⟨U, lo, ce, sl⟩, -, X', ⟨Lc, hQ, l1, l2, l3⟩, stp⟩ := X.specialBack hx (y := yOf P me') hini hown (mv hZ w1) (mv hZ w2) (mv hZ hcode') LK.2.2.2.2.2.2.2.2.2.2.2.1 hB (g := mkF m pc L (st.map (va (rho a n0 (P.al.length + 1))))) rfl hsize (Steps.refl _) hll hsm (by show 2 * 0 + _ ≤ _; rw [cats_va]; omega) hd hpre
                    dsimp only [Pt.U, Pt.locs, Pt.cells, Pt.slots] at X' hQ l1 l2 l3 stp
                    subst l1 l2 l3
                    obtain ⟨⟨rfl, -⟩, hF', hH', hK', hS'⟩ := hQ
                    rw [if_pos rfl] at hH' hS'
                    have I' : LRep P Z U.heap a n0 sc (uo os o s1, o + 1, false) := by
                      refine ⟨i1.congr fun x hx => hK' x (Or.inl (by omega)), fun o' ho' => ?_, fun q => by simp at q, by rw [hS']; show n0 + o * (P.al.length + 1) + 1 + P.al.length = n0 + (o + 1) * (P.al.length + 1) + 0; exact ar6 m1⟩
                      by_cases e2 : o' = o
                      · subst e2; simpa [uo] using hH'
                      · have ho2 : o' < o := by have : o' < o + 1 := ho'; omega
                        have := (i2 o' ho2).congr (h' := U.heap) fun x hx1 hx2 => hK' x (by have := rng (K := P.al.length + 1) ho2; omega)
                        simpa [uo, e2] using this
                    refine Don.step (fun t q => stp.trans q) (ihk p l e s₀ m args below meth cd U (locs ++ Lc) _ ls r _ v w' L hx hZ hown hret hml hlk hs0 hdec hr ?_ (by show (o + 1) * (P.al.length + 1) + 0 ≤ Q.rc; omega) (by show (o + 1) * (Q.nf + zs P.al P.al.length) + 0 ≤ Q.rs; omega) I' (hFr.app hF') hL hlen)
                    have h1 : lco P 0 (uo os o s1, o + 1, false) = o * (P.al.length + 1) + 1 + (cRoom P 0 me').cells := by
                      show (o + 1) * (P.al.length + 1) + 0 = o * (P.al.length + 1) + 1 + P.al.length
                      exact ar3 m1
                    have h2 : lzo P Q 0 (uo os o s1, o + 1, false) = o * (Q.nf + zs P.al P.al.length) + Q.nf + (cRoom P 0 me').slots := by
                      show (o + 1) * (Q.nf + zs P.al P.al.length) + 0 = o * (Q.nf + zs P.al P.al.length) + Q.nf + zs P.al P.al.length
                      exact ar4 m2
                    rw [h1, h2]; exact X'
              · rw [if_neg hla] at hr; cases hr
            · cases hr
          · cases hr
      -- a method of the class
      · obtain rfl := hn.resolve_left Bool.false_ne_true
        split at hr
        · cases hr
        · rename_i m' hm'
          split at hr
          · cases hr
          · rename_i me' hme'
            split at hr
            · rename_i o r hst
              split at hr
              · rename_i hg
                obtain ⟨hg0, hgo, hg1, hg2, hg3⟩ := hg
                obtain ⟨bytes, ps, hcode, hdec', hpar, hpl⟩ := LK.2.2.2.2.2.2.2.2.1 m' me' hme'
                obtain ⟨w1, w2, w3, w4⟩ := LL.2.2.1 _ _ hm' me' hme'
                simp only [ccall, hme'] at hr
                by_cases hla : (layA (Value.ref 0 :: (st.take me'.na).reverse)).length ≤ me'.ml
                · rw [if_pos hla] at hr
                  cases hcl : cexec P f m' me' P.al.length 0 (lay (.ref 0 :: (st.take me'.na).reverse) me'.ml) [] (w.1 o) with
                  | none => rw [hcl] at hr; cases hr
                  | some vs =>
                    obtain ⟨u, s1⟩ := vs
                    rw [hcl] at hr
                    have hr' : lexec P Q sc f mi me (pc + 3) ls (u.toList ++ r) (uo w.1 o s1, w.2.1, w.2.2) = some (v, w') := by cases u <;> exact hr
                    have hM := met_of_CW LK hme' (cwalk LK (n0 := n0) (adr := n0 + o * (P.al.length + 1)) (Nat.le_add_right _ _) f m' me' hme') l hdec' (as := .ref 0 :: (st.take me'.na).reverse) (nd_rev (ρ := id) (nr_nd hg3)) hla hcl (fun q => absurd q hg0) (I.2.1 o hgo) (fun q => absurd q hg0)
                    have hB := backOf (R := lRoom Q mi me) (p := p) (e := e) (below := below) (s := s₀) (args := args) (len := 3) (W := cats r) hM hZ hcode LK.1.2 hg1 hg2
                    have hdl : me'.na < st.length := by
                      have := congrArg List.length hst
                      simp at this; omega
                    have hsp : st = st.take me'.na ++ .ref (o + 1) :: r := by rw [← hst, List.take_append_drop]
                    have hrv : ∀ ρ : Nat → Nat, (st.take me'.na).reverse.map (va ρ) = (st.take me'.na).reverse := fun ρ => by rw [List.map_reverse, nr_map hg3]
                    have hsm : st.map (va (rho a n0 (P.al.length + 1))) = ((st.take me'.na).reverse).reverse ++ .ref (n0 + o * (P.al.length + 1)) :: r.map (va (rho a n0 (P.al.length + 1))) := by
                      conv => lhs; rw [hsp]
                      rw [List.map_append, nr_map hg3]; simp [va, rho]
                    have hll : ∀ sig, parseMethodDescriptor (yOf P me').desc = some sig → ((st.take me'.na).reverse).length = sig.parameters.length := lenOf hpar (by simp [hpl]; omega)
                    have hz1 : (cRoom P m' me').cells = 0 := by simp [cRoom, hg0]
                    have hz2 : (cRoom P m' me').slots = 0 := by simp [cRoom, hg0]
                    have hpre : ∀ vm₁, s₀.WarmedH vm₁ → ((Value.ref (n0 + o * (P.al.length + 1)) :: (st.take me'.na).reverse).toArray = ((Value.ref 0 :: (st.take me'.na).reverse).map (va ((n0 + o * (P.al.length + 1)) + ·))).toArray ∧ (T.setVm vm₁).heap = T.heap ∧ lco P mi w + (cRoom P m' me').cells ≤ (lRoom Q mi me).cells ∧ lzo P Q mi w + (cRoom P m' me').slots ≤ (lRoom Q mi me).slots) := fun vm₁ _ => by
                      refine ⟨by rw [List.map_cons, hrv]; rfl, rfl, ?_, ?_⟩
                      · rw [hz1]; simp only [lco, lRoom] at *; split
                        · simpa using hc1
                        · exact Nat.le_refl _
                      · rw [hz2]; simp only [lzo, lRoom] at *; split
                        · simpa using hc2
                        · exact Nat.le_refl _
                    obtain ⟨cq, kq, qa, qb, qc⟩ := isOf hZ rfl (I.2.1 o hgo).1
                    obtain ⟨v', vm₁, ⟨U, lo, ce, sl⟩, -, X', ⟨Lc, hQ, l1, l2, l3⟩, stp⟩ := X.virtualBack hx (y := yOf P me') (z := yOf P me') hown (mv hZ w1) (mv hZ w2) (notFace_of_selects (args := #[]) (mv hZ w4)) (mv hZ w4) (mv hZ w3) LK.2.2.2.2.2.2.2.2.2.2.2.1 hB qa qc (g := mkF m pc L (st.map (va (rho a n0 (P.al.length + 1))))) rfl hsize (Steps.refl _) hll hsm (by show 2 * 0 + _ ≤ _; rw [cats_va]; omega) hd hpre
                    dsimp only [Pt.U, Pt.locs, Pt.cells, Pt.slots] at X' hQ l1 l2 l3 stp
                    subst l1 l2 l3
                    obtain ⟨⟨rfl, hva⟩, hF', hH', hK', hS'⟩ := hQ
                    rw [if_neg hg0] at hH' hS'
                    rw [hz1, hz2] at X'
                    refine Don.step (fun t q => stp.trans ?_) (ihk p l e s₀ m args below meth cd U (locs ++ Lc) _ ls (v'.toList ++ r) _ v w' L hx hZ hown hret hml hlk hs0 hdec hr' X' hc1 hc2 (I.call hgo hK' hS' hH') (hFr.app hF') hL hlen)
                    rw [List.map_append, hva] at q; exact q
                · rw [if_neg hla] at hr; cases hr
              · cases hr
            · cases hr
      -- a static method of the law
      · obtain rfl := hn.resolve_left Bool.false_ne_true
        split at hr
        · cases hr
        · rename_i m' hm'
          split at hr
          · cases hr
          · rename_i me' hme'
            split at hr
            · rename_i hg
              obtain ⟨hg0, hgn, hg1, hg2, hg3⟩ := hg
              obtain ⟨bytes, ps, hcode, hdec', hpar, hpl⟩ := LL.2.2.2.2.2.1 m' me' hme' hg0
              obtain ⟨w1, w2, w3⟩ := LL.2.2.2.1 _ _ hm' me' hme'
              dsimp only at hr
              rw [hme'] at hr
              dsimp only at hr
              by_cases hla : (layA (st.take me'.na).reverse).length ≤ me'.ml
              · rw [if_pos hla] at hr
                cases hcl : lexec P Q sc f m' me' 0 (lay (st.take me'.na).reverse me'.ml) [] w with
                | none => rw [hcl] at hr; cases hr
                | some vs =>
                  obtain ⟨u, w2'⟩ := vs
                  rw [hcl] at hr
                  have hr' : lexec P Q sc f mi me (pc + 3) ls (u.toList ++ st.drop me'.na) w2' = some (v, w') := by cases u <;> exact hr
                  have hndv : ∀ v ∈ (st.take me'.na).reverse, ∀ x, v ≠ .double x := fun v hv x e => nd_spec hg3 v (List.mem_reverse.mp hv) x e
                  have hM := met_of_LW LL (ih m' me' hme') hg0 l hdec' (as := (st.take me'.na).reverse) hndv hla hcl (by simpa [lRoom] using hc1) (by simpa [lRoom] using hc2) I
                  have hB := backOf (R := lRoom Q mi me) (p := p) (e := e) (below := below) (s := s₀) (args := args) (len := 3) (W := cats (st.drop me'.na)) hM hZ hcode w3 hg1 hg2
                  have hsm : st.map (va (rho a n0 (P.al.length + 1))) = (((st.take me'.na).reverse).map (va (rho a n0 (P.al.length + 1)))).reverse ++ (st.drop me'.na).map (va (rho a n0 (P.al.length + 1))) := by
                    conv => lhs; rw [← List.take_append_drop me'.na st]
                    simp
                  have hll : ∀ sig, parseMethodDescriptor (zOf Q me').desc = some sig → (((st.take me'.na).reverse).map (va (rho a n0 (P.al.length + 1)))).length = sig.parameters.length := lenOf hpar (by simp [hpl]; omega)
                  have hz1 : (lRoom Q m' me').cells = 0 := by simp [lRoom, hg0]
                  have hz2 : (lRoom Q m' me').slots = 0 := by simp [lRoom, hg0]
                  have hpre : ∀ vm₁, s₀.WarmedH vm₁ → ((((st.take me'.na).reverse).map (va (rho a n0 (P.al.length + 1)))).toArray = (((st.take me'.na).reverse).map (va (rho a n0 (P.al.length + 1)))).toArray ∧ (T.setVm vm₁).heap = T.heap ∧ lco P mi w + (lRoom Q m' me').cells ≤ (lRoom Q mi me).cells ∧ lzo P Q mi w + (lRoom Q m' me').slots ≤ (lRoom Q mi me).slots) := fun vm₁ _ => by
                    refine ⟨rfl, rfl, ?_, ?_⟩
                    · rw [hz1]; simp only [lco, lRoom] at *; split
                      · simpa using hc1
                      · exact Nat.le_refl _
                    · rw [hz2]; simp only [lzo, lRoom] at *; split
                      · simpa using hc2
                      · exact Nat.le_refl _
                  obtain ⟨v', vm₁, ⟨U, lo, ce, sl⟩, -, X', ⟨Lc, hQ, l1, l2, l3⟩, stp⟩ := Jvm.LawKit.callS X hx (y := zOf Q me') hown (mv hZ w1) (mv hZ w2) (mv hZ w3) (mv hZ hcode) LL.2.2.2.2.2.2.2 hB (g := mkF m pc L (st.map (va (rho a n0 (P.al.length + 1))))) rfl hsize hll hsm (by show 2 * 0 + _ ≤ _; rw [cats_va]; omega) hd hpre
                  dsimp only [Pt.U, Pt.locs, Pt.cells, Pt.slots] at X' hQ l1 l2 l3 stp
                  subst l1 l2 l3
                  obtain ⟨⟨rfl, hva⟩, hF', hI'⟩ := hQ
                  rw [hz1, hz2] at X'
                  have hcn := lexec_cnt _ _ _ _ _ _ _ _ _ hg0 hcl
                  have e1 : lco P mi w2' = lco P mi w := by simp only [lco, hcn]
                  have e2 : lzo P Q mi w2' = lzo P Q mi w := by simp only [lzo, hcn]
                  refine Don.step (fun t q => stp t ?_) (ihk p l e s₀ m args below meth cd U (locs ++ Lc) _ ls (v'.toList ++ st.drop me'.na) _ v w' L hx hZ hown hret hml hlk hs0 hdec hr' (by rw [e1, e2]; exact X') (by rw [hcn]; exact hc1) (by rw [hcn]; exact hc2) hI' (hFr.app hF') hL hlen)
                  rw [List.map_append, hva] at q; exact q
              · rw [if_neg hla] at hr; cases hr
            · cases hr
      -- the rest
      · split at hr
        · split at hr
          · rename_i u hu
            cases hr
            refine st_ret X hx hret hlk hu hd hn ⟨⟨rfl, cret_va hu⟩, hFr, I⟩ ?_ ?_
            · simp only [lco, lRoom] at *; split
              · simpa using hc1
              · exact Nat.le_refl _
            · simp only [lzo, lRoom] at *; split
              · simpa using hc2
              · exact Nat.le_refl _
          · cases hr
        · split at hr
          · rename_i pc' ls' st' hp
            obtain ⟨L', hL', hLs, st⟩ := pstep_sound X hx hp hd hn hL
            have hlen' : ls'.length = me.ml := by rw [← hL'.1, hLs, hL.1]; exact hlen
            exact Don.step st (ihk p l e s₀ m args below meth cd T locs _ ls' st' w v w' L' hx hZ hown hret hml hlk hs0 hdec hr X hc1 hc2 I hFr hL' hlen')
          · cases hr
/-- the law as a whole: what the machine returns, the program returns -/
theorem law_met {P : Cl} {Q : Lw} {sc : Sc} {Z : State} {a0 : Array Value} (LK : LinkC P Z a0) (LL : LinkL P Q Z a0) {a f : Nat} {me : Me} (hme : asc Q.ms 0 = some me) (l : Launch) {bytes : ByteArray} {ws : List Cond}
    (hdec : ∀ pc i n, fetch me.cd pc = some (i, n) → decode bytes pc = .ok (i, n) ∧ (isSw i = true ∨ n = ilen i))
    {as : List Value} (hnd : nd as = true) (hlen : (layA as).length ≤ me.ml) {v : Option Value} {w' : Wd} {h : Heap} (hr : lexec P Q sc f 0 me 0 (lay as me.ml) [] (fun _ => s0, 0, false) = some (v, w')) (hS : SRep Z h a h.size sc) :
    MetFree l (zOf Q me) (head1 (Cond.code (zOf Q me) bytes me.ml (retOf me.rt) :: ws) (lRoom Q 0 me)) (fun b U => b = (as.map (va (rho a h.size (P.al.length + 1)))).toArray ∧ Z.Warmed39 U.vm ∧ U.heap = h) (fun _ _ _ _ _ => True)
      (fun _ U o U' => ∃ u L, o = .returned u ∧ (u = v ∧ Fr h.size L) ∧ FrameEnd U o U' L Q.rc Q.rs) := by
  refine MetFree.of_bodySF (plainFor_of_name LL.2.2.2.2.2.2.1) hisR ?_
  intro p e s₀ m args below meth cd s₁ Bd hml hP hK
  obtain ⟨rfl, hZ, hh⟩ := hP
  have e0 : s₁.heap = h := by rw [← hh, Bd.state]; rfl
  have X0 : Stand p l e (lRoom Q 0 me) s₀ m _ below meth cd s₁ [] 0 0 := Stand.of_body Bd
  have hown : s₀.vm.findClass Q.nm = some m.cls := findClass_of_methodNamed Bd.named
  have hk0 : lco P 0 (fun _ => s0, 0, false) = 0 := by simp [lco]
  have hz0 : lzo P Q 0 (fun _ => s0, 0, false) = 0 := by simp [lzo]
  have D := lwalk LK LL (sc := sc) (a := a) (n0 := h.size) f 0 me hme p l e s₀ m _ below meth cd s₁ [] 0 (lay as me.ml) [] (fun _ => s0, 0, false) v w' _ Bd.exec hZ hown Bd.returns hml Bd.notSynchronized (fun _ => by rw [hh])
    (fun pc i n q => by rw [Bd.bytes]; exact hdec pc i n q) hr (by rw [hk0, hz0]; exact X0) (by simp) (by simp) (by
      rw [e0]; exact ⟨hS, fun o ho => absurd ho (Nat.not_lt_zero _), fun q => by simp at q, by simp⟩) (Fr.nil _) (lay_LR (nd_spec hnd) hlen) (lay_len hlen)
  obtain ⟨s₂, o, a1, a2, a3, u, L, a4, a5, a6⟩ := D
  refine ⟨s₂, o, a1, a2, a3, u, L, a4, ⟨a5.1.1, a5.2.1⟩, ?_⟩
  simpa [lRoom] using a6
end Jvm.LM

namespace Jvm.LM
open Sem ClassFile Op Lib Jvm.Stand Jvm.Free Jvm.LawKit Jvm.RoadKit
/-! what a run of the machine comes to -/
theorem cstep_mono {α : Type} {P : Cl} {mi : Nat} {me : Me} {rt : Option Value → St → Option α} {cl cl' : Nat → Nat → List Value → St → Rs} {k k' : Nat → Nat → Lv → List Value → St → Option α} {i : Instr} {c pc : Nat} {ls : Lv} {st : List Value} {s : St} {r : α}
    (hcl : ∀ m c as s r, cl m c as s = some r → cl' m c as s = some r) (hk : ∀ c pc ls st s r, k c pc ls st s = some r → k' c pc ls st s = some r) (h : cstep P mi me rt cl k i c pc ls st s = some r) : cstep P mi me rt cl' k' i c pc ls st s = some r := by
  unfold cstep at h ⊢
  split at h
  all_goals (try dsimp only)
  · split at h
    · split at h
      · exact hk _ _ _ _ _ _ h
      · cases h
    · cases h
  · split at h
    · split at h
      · exact hk _ _ _ _ _ _ h
      · cases h
    · cases h
  · split at h
    · exact hk _ _ _ _ _ _ h
    · cases h
  · split at h
    · exact hk _ _ _ _ _ _ h
    · cases h
  · split at h
    · exact hk _ _ _ _ _ _ h
    · cases h
  · split at h
    · exact hk _ _ _ _ _ _ h
    · cases h
  · split at h
    · exact hk _ _ _ _ _ _ h
    · cases h
  · split at h
    · exact hk _ _ _ _ _ _ h
    · cases h
  · split at h
    · rename_i q; rw [if_pos q]; exact hk _ _ _ _ _ _ h
    · cases h
  · split at h
    · exact hk _ _ _ _ _ _ h
    · cases h
  · split at h
    · exact hk _ _ _ _ _ _ h
    · cases h
  · split at h
    · split at h
      · rename_i q; rw [if_pos q]; exact hk _ _ _ _ _ _ h
      · cases h
    · cases h
  · split at h
    · cases h
    · rename_i m' hm'
      split at h
      · cases h
      · rename_i me' hme'
        split at h
        · rename_i r0 hst
          split at h
          · rename_i q
            rw [if_pos q]
            split at h
            · rename_i s1 hc; rw [hcl _ _ _ _ _ hc]; exact hk _ _ _ _ _ _ h
            · rename_i v1 s1 hc; rw [hcl _ _ _ _ _ hc]; exact hk _ _ _ _ _ _ h
            · cases h
          · cases h
        · cases h
  · split at h
    · rename_i q; rw [if_pos q]; exact h
    · rename_i q; rw [if_neg q]
      split at h
      · exact hk _ _ _ _ _ _ h
      · cases h
theorem cexec_succ {P : Cl} : ∀ f mi me c pc ls st s r, cexec P f mi me c pc ls st s = some r → cexec P (f + 1) mi me c pc ls st s = some r := by
  intro f
  induction f with
  | zero => intro mi me c pc ls st s r h; cases h
  | succ f ih =>
    intro mi me c pc ls st s r h
    rw [cexec] at h ⊢
    split at h
    · cases h
    · refine cstep_mono (fun m c as s r h => ?_) (fun c pc ls st s r h => ih _ _ _ _ _ _ _ _ h) h
      split at h
      · split at h
        · rename_i q; rw [if_pos q]; exact ih _ _ _ _ _ _ _ _ h
        · cases h
      · cases h
theorem cexec_le {P : Cl} {f g mi : Nat} {me : Me} {c pc : Nat} {ls : Lv} {st : List Value} {s : St} {r : Option Value × St} (hfg : f ≤ g) (h : cexec P f mi me c pc ls st s = some r) : cexec P g mi me c pc ls st s = some r := by
  obtain ⟨d, rfl⟩ := Nat.le.dest hfg
  induction d with
  | zero => exact h
  | succ d ih => exact cexec_succ _ _ _ _ _ _ _ _ _ (ih (Nat.le_add_right _ _))
theorem ccall_le {P : Cl} {f g m' c : Nat} {as : List Value} {s : St} {r : Option Value × St} (hfg : f ≤ g) (h : ccall P f m' c as s = some r) : ccall P g m' c as s = some r := by
  unfold ccall at h ⊢
  split at h
  · split at h
    · rename_i q; rw [if_pos q]; exact cexec_le hfg h
    · cases h
  · cases h
def wpc (P : Cl) (mi : Nat) (me : Me) (c pc : Nat) (ls : Lv) (st : List Value) (s : St) (Q : Option Value → St → Prop) : Prop := ∃ f v s', cexec P f mi me c pc ls st s = some (v, s') ∧ Q v s'
def cal (P : Cl) (m' c : Nat) (as : List Value) (s : St) (Q : Option Value → St → Prop) : Prop := ∃ f v s', ccall P f m' c as s = some (v, s') ∧ Q v s'
def calI (P : Cl) (m' c : Nat) (as : List Value) (s : St) (Q : Int32 → St → Prop) : Prop := cal P m' c as s fun r s' => ∃ v, r = some (.int v) ∧ Q v s'
def calL (P : Cl) (m' c : Nat) (as : List Value) (s : St) (Q : Int64 → St → Prop) : Prop := cal P m' c as s fun r s' => ∃ v, r = some (.long v) ∧ Q v s'
def calV (P : Cl) (m' c : Nat) (as : List Value) (s : St) (Q : St → Prop) : Prop := cal P m' c as s fun r s' => r = none ∧ Q s'
theorem cstep_nat {α : Type} {P : Cl} {mi : Nat} {me : Me} {k : Nat → Nat → Lv → List Value → St → Option α} {i : Instr} {c pc : Nat} {ls : Lv} {st : List Value} {s : St} {x : α}
    (h : cstep P mi me (fun _ _ => none) (fun _ _ _ _ => none) k i c pc ls st s = some x) : ∃ c' pc' ls' st' s', k c' pc' ls' st' s' = some x ∧ ∀ (β : Type) (rt : Option Value → St → Option β) cl (k' : Nat → Nat → Lv → List Value → St → Option β), cstep P mi me rt cl k' i c pc ls st s = k' c' pc' ls' st' s' := by
  unfold cstep at h
  split at h
  · split at h
    · split at h
      · rename_i q; exact ⟨_, _, _, _, _, h, fun β rt cl k' => by simp only [cstep, q]⟩
      · cases h
    · cases h
  · split at h
    · split at h
      · rename_i q; exact ⟨_, _, _, _, _, h, fun β rt cl k' => by simp only [cstep, q]⟩
      · cases h
    · cases h
  · split at h
    · rename_i q; exact ⟨_, _, _, _, _, h, fun β rt cl k' => by simp only [cstep, q]⟩
    · cases h
  · split at h
    · rename_i q; exact ⟨_, _, _, _, _, h, fun β rt cl k' => by simp only [cstep, q]⟩
    · cases h
  · split at h
    · rename_i q; exact ⟨_, _, _, _, _, h, fun β rt cl k' => by simp only [cstep, q]⟩
    · cases h
  · split at h
    · rename_i q; exact ⟨_, _, _, _, _, h, fun β rt cl k' => by simp only [cstep, q]⟩
    · cases h
  · split at h
    · rename_i q; exact ⟨_, _, _, _, _, h, fun β rt cl k' => by simp only [cstep, q]⟩
    · cases h
  · split at h
    · rename_i q; exact ⟨_, _, _, _, _, h, fun β rt cl k' => by simp only [cstep, q]⟩
    · cases h
  · split at h
    · rename_i q; exact ⟨_, _, _, _, _, h, fun β rt cl k' => by simp only [cstep]; rw [if_pos q]⟩
    · cases h
  · split at h
    · rename_i q; exact ⟨_, _, _, _, _, h, fun β rt cl k' => by simp only [cstep, q]⟩
    · cases h
  · split at h
    · rename_i q; exact ⟨_, _, _, _, _, h, fun β rt cl k' => by simp only [cstep, q]⟩
    · cases h
  · split at h
    · split at h
      · rename_i q; exact ⟨_, _, _, _, _, h, fun β rt cl k' => by simp only [cstep]; rw [if_pos q]⟩
      · cases h
    · cases h
  · split at h
    · cases h
    · split at h
      · cases h
      · split at h
        · split at h
          · cases h
          · cases h
        · cases h
  · rename_i n1 n2 n3 n4 n5 n6 n7 n8 n9 n10 n11 n12 n13
    split at h
    · split at h
      · cases h
      · split at h <;> cases h
    · rename_i hr
      split at h
      · rename_i pc' ls' st' hp
        refine ⟨_, _, _, _, _, h, fun β rt cl k' => ?_⟩
        unfold cstep
        split <;> first | (exfalso; first | exact n1 _ rfl | exact n2 _ rfl | exact n3 rfl | exact n4 rfl | exact n5 rfl | exact n6 rfl | exact n7 rfl | exact n8 rfl | exact n9 _ rfl | exact n10 _ rfl | exact n11 _ rfl | exact n12 _ rfl | exact n13 _ rfl) | skip
        rw [if_neg hr, hp]
      · cases h
def csl (P : Cl) (mi : Nat) (me : Me) : Nat → Nat → Nat → Lv → List Value → St → Option (Nat × Nat × Lv × List Value × St)
  | 0, c, pc, ls, st, s => some (c, pc, ls, st, s)
  | n + 1, c, pc, ls, st, s => match fetch me.cd pc with
    | none => none
    | some (i, _) => cstep P mi me (fun _ _ => none) (fun _ _ _ _ => none) (csl P mi me n) i c pc ls st s
theorem wpc_one {P : Cl} {mi : Nat} {me : Me} {c pc c' pc' : Nat} {ls ls' : Lv} {st st' : List Value} {s s' : St} {Q : Option Value → St → Prop} {i : Instr} {n : Nat} (hf : fetch me.cd pc = some (i, n))
    (h : ∀ (rt : Option Value → St → Rs) cl (k : Nat → Nat → Lv → List Value → St → Rs), cstep P mi me rt cl k i c pc ls st s = k c' pc' ls' st' s') (hq : wpc P mi me c' pc' ls' st' s' Q) : wpc P mi me c pc ls st s Q := by
  obtain ⟨f, v, s2, h1, h2⟩ := hq
  refine ⟨f + 1, v, s2, ?_, h2⟩
  rw [cexec, hf]; dsimp only; rw [h]; exact h1
theorem wpc_sl {P : Cl} {mi : Nat} {me : Me} {Q : Option Value → St → Prop} : ∀ {n c pc c' pc' : Nat} {ls ls' : Lv} {st st' : List Value} {s s' : St}, csl P mi me n c pc ls st s = some (c', pc', ls', st', s') → wpc P mi me c' pc' ls' st' s' Q → wpc P mi me c pc ls st s Q := by
  intro n
  induction n with
  | zero => intro c pc c' pc' ls ls' st st' s s' h hq; cases h; exact hq
  | succ n ih =>
    intro c pc c' pc' ls ls' st st' s s' h hq
    simp only [csl] at h
    split at h
    · cases h
    · rename_i i m hf
      obtain ⟨c1, pc1, ls1, st1, s1, h1, h2⟩ := cstep_nat h
      exact wpc_one hf (fun rt cl k => h2 _ rt cl k) (ih h1 hq)
theorem wpc_ret {P : Cl} {mi : Nat} {me : Me} {c pc : Nat} {ls : Lv} {st : List Value} {s : St} {Q : Option Value → St → Prop} {i : Instr} {n : Nat} {v : Option Value} (hf : fetch me.cd pc = some (i, n)) (hr : isRet i = true) (hc : mi = 0 → c = P.al.length) (h : cret me st i = some v) (hq : Q v s) : wpc P mi me c pc ls st s Q := by
  refine ⟨1, v, s, ?_, hq⟩
  rw [cexec, hf]; dsimp only
  have hc' : ¬ (mi = 0 ∧ c ≠ P.al.length) := fun q => q.2 (hc q.1)
  cases i <;> first | (cases hr; done) | (simp only [cstep]; rw [if_pos hr, if_neg hc', h])
theorem wpc_if {P : Cl} {mi : Nat} {me : Me} {c pc a b : Nat} {ls : Lv} {r : List Value} {s : St} {Q : Option Value → St → Prop} {cd : ClassFile.Cond} {o : Int} {n : Nat} {x : Int32} (hf : fetch me.cd pc = some (.ifCond cd o, n)) (ho : 0 ≤ (pc : Int) + o) (ha : jmp pc o = a) (hb : pc + 3 = b)
    (hq : wpc P mi me c (br cd x 0 a b) ls r s Q) : wpc P mi me c pc ls (.int x :: r) s Q := by
  subst ha hb
  refine wpc_one hf (fun rt cl k => ?_) hq
  show (match pstep (.ifCond cd o) pc ls (.int x :: r) with | some (pc', ls', st') => k c pc' ls' st' s | none => none) = _
  simp only [pstep, qstep]; rw [if_pos ho]
theorem wpc_icmp {P : Cl} {mi : Nat} {me : Me} {c pc a b : Nat} {ls : Lv} {r : List Value} {s : St} {Q : Option Value → St → Prop} {cd : ClassFile.Cond} {o : Int} {n : Nat} {x y : Int32} (hf : fetch me.cd pc = some (.if_icmp cd o, n)) (ho : 0 ≤ (pc : Int) + o) (ha : jmp pc o = a) (hb : pc + 3 = b)
    (hq : wpc P mi me c (br cd x y a b) ls r s Q) : wpc P mi me c pc ls (.int y :: .int x :: r) s Q := by
  subst ha hb
  refine wpc_one hf (fun rt cl k => ?_) hq
  show (match pstep (.if_icmp cd o) pc ls (.int y :: .int x :: r) with | some (pc', ls', st') => k c pc' ls' st' s | none => none) = _
  simp only [pstep, qstep]; rw [if_pos ho]
/-- the two roads of a branch -/
theorem wpc_br {P : Cl} {mi : Nat} {me : Me} {c a b : Nat} {ls : Lv} {st : List Value} {s : St} {Q : Option Value → St → Prop} {p : Prop} [Decidable p] (h : (p → wpc P mi me c a ls st s Q) ∧ (¬ p → wpc P mi me c b ls st s Q)) : wpc P mi me c (if p then a else b) ls st s Q := by
  by_cases hp : p
  · rw [if_pos hp]; exact h.1 hp
  · rw [if_neg hp]; exact h.2 hp
theorem wpc_lda {P : Cl} {mi : Nat} {me : Me} {c pc a tt N : Nat} {ls : Lv} {r : List Value} {s : St} {Q : Option Value → St → Prop} {i : Instr} {n : Nat} {j : Int32} (hf : fetch me.cd pc = some (i, n)) (hi : (tt = 0 ∧ i = .iaload) ∨ (tt = 1 ∧ i = .baload) ∨ (tt = 2 ∧ i = .laload)) (ha : P.al[a]? = some (tt, N)) (hac : a < c)
    (hj : inb N j) (hq : wpc P mi me c (pc + 1) ls (elv tt s (a + 1) (ix j) :: r) s Q) : wpc P mi me c pc ls (.int j :: .ref (a + 1) :: r) s Q := by
  have hl : lda P tt c (.int j :: .ref (a + 1) :: r) s = some (elv tt s (a + 1) (ix j) :: r) := by
    simp only [lda, ha]; rw [if_pos ⟨trivial, hac⟩, if_pos hj]; rfl
  refine wpc_one hf (fun rt cl k => ?_) hq
  rcases hi with ⟨rfl, rfl⟩ | ⟨rfl, rfl⟩ | ⟨rfl, rfl⟩ <;> simp only [cstep, hl]
theorem wpc_sta {P : Cl} {mi : Nat} {me : Me} {c pc a tt N : Nat} {ls : Lv} {r : List Value} {s s' : St} {Q : Option Value → St → Prop} {i : Instr} {n : Nat} {j : Int32} {v : Value} (hf : fetch me.cd pc = some (i, n)) (hi : (tt = 0 ∧ i = .iastore ∧ ∃ z, v = .int z ∧ s' = sI s (a + 1) (ix j) z) ∨ (tt = 1 ∧ i = .bastore ∧ ∃ z, v = .int z ∧ s' = sI s (a + 1) (ix j) (z &&& 1)) ∨ (tt = 2 ∧ i = .lastore ∧ ∃ z, v = .long z ∧ s' = sL s (a + 1) (ix j) z)) (ha : P.al[a]? = some (tt, N)) (hac : a < c)
    (hj : inb N j) (hq : wpc P mi me c (pc + 1) ls r s' Q) : wpc P mi me c pc ls (v :: .int j :: .ref (a + 1) :: r) s Q := by
  have hl : sta P tt c (v :: .int j :: .ref (a + 1) :: r) s = some (r, s') := by
    simp only [sta, ha]; rw [if_pos ⟨trivial, hac⟩, if_pos hj]
    rcases hi with ⟨rfl, -, z, rfl, rfl⟩ | ⟨rfl, -, z, rfl, rfl⟩ | ⟨rfl, -, z, rfl, rfl⟩ <;> rfl
  refine wpc_one hf (fun rt cl k => ?_) hq
  rcases hi with ⟨rfl, rfl, -⟩ | ⟨rfl, rfl, -⟩ | ⟨rfl, rfl, -⟩ <;> simp only [cstep, hl]
theorem wpc_call {P : Cl} {mi : Nat} {me me' : Me} {c pc x m' : Nat} {ls : Lv} {st r as : List Value} {s : St} {Q : Option Value → St → Prop} {n : Nat} (hf : fetch me.cd pc = some (.invokevirtual x, n)) (hm : asc P.mx x = some m') (hme : asc P.ms m' = some me') (hst : st.drop me'.na = .ref 0 :: r) (has : (st.take me'.na).reverse = as)
    (hg : m' ≠ 0 ∧ me'.rf + 1 ≤ me.rf ∧ cats r + (me'.ml + 11) + me'.rl ≤ me.rl ∧ nd (st.take me'.na) = true)
    (hq : cal P m' c (.ref 0 :: as) s fun v s' => wpc P mi me c (pc + 3) ls (v.toList ++ r) s' Q) : wpc P mi me c pc ls st s Q := by
  subst has
  obtain ⟨f1, v, s1, h1, f2, v2, s2, h2, h3⟩ := hq
  refine ⟨max f1 f2 + 1, v2, s2, ?_, h3⟩
  have h1' := ccall_le (Nat.le_max_left f1 f2) h1
  have h2' := cexec_le (Nat.le_max_right f1 f2) h2
  rw [cexec, hf]; dsimp only
  simp only [cstep, hm, hme, hst]
  rw [if_pos hg]
  simp only [ccall, hme] at h1'
  rw [h1']
  cases v <;> exact h2'
theorem cal_of {P : Cl} {m' c : Nat} {as : List Value} {s : St} {Q : Option Value → St → Prop} {me : Me} {ls : Lv} (hme : asc P.ms m' = some me) (hl : (layA as).length ≤ me.ml) (hls : lay as me.ml = ls) (h : wpc P m' me c 0 ls [] s Q) : cal P m' c as s Q := by
  subst hls
  obtain ⟨f, v, s', h1, h2⟩ := h
  refine ⟨f, v, s', ?_, h2⟩
  simp only [ccall, hme]; rw [if_pos hl]; exact h1
theorem cal.mono {P : Cl} {m' c : Nat} {as : List Value} {s : St} {Q Q' : Option Value → St → Prop} (h : cal P m' c as s Q) (hq : ∀ v s', Q v s' → Q' v s') : cal P m' c as s Q' := by
  obtain ⟨f, v, s', h1, h2⟩ := h; exact ⟨f, v, s', h1, hq _ _ h2⟩
theorem calI.mono {P : Cl} {m' c : Nat} {as : List Value} {s : St} {Q Q' : Int32 → St → Prop} (h : calI P m' c as s Q) (hq : ∀ v s', Q v s' → Q' v s') : calI P m' c as s Q' := cal.mono h fun _ _ ⟨v, e, q⟩ => ⟨v, e, hq _ _ q⟩
theorem calL.mono {P : Cl} {m' c : Nat} {as : List Value} {s : St} {Q Q' : Int64 → St → Prop} (h : calL P m' c as s Q) (hq : ∀ v s', Q v s' → Q' v s') : calL P m' c as s Q' := cal.mono h fun _ _ ⟨v, e, q⟩ => ⟨v, e, hq _ _ q⟩
theorem calV.mono {P : Cl} {m' c : Nat} {as : List Value} {s : St} {Q Q' : St → Prop} (h : calV P m' c as s Q) (hq : ∀ s', Q s' → Q' s') : calV P m' c as s Q' := cal.mono h fun _ _ ⟨e, q⟩ => ⟨e, hq _ q⟩
theorem wpc.mono {P : Cl} {mi : Nat} {me : Me} {c pc : Nat} {ls : Lv} {st : List Value} {s : St} {Q Q' : Option Value → St → Prop} (h : wpc P mi me c pc ls st s Q) (hq : ∀ v s', Q v s' → Q' v s') : wpc P mi me c pc ls st s Q' := by
  obtain ⟨f, v, s', h1, h2⟩ := h; exact ⟨f, v, s', h1, hq _ _ h2⟩
theorem wpc_callI {P : Cl} {mi : Nat} {me me' : Me} {c pc x m' : Nat} {ls : Lv} {st r as : List Value} {s : St} {Q : Option Value → St → Prop} {n : Nat} (hf : fetch me.cd pc = some (.invokevirtual x, n)) (hm : asc P.mx x = some m') (hme : asc P.ms m' = some me') (hst : st.drop me'.na = .ref 0 :: r) (has : (st.take me'.na).reverse = as)
    (hg : m' ≠ 0 ∧ me'.rf + 1 ≤ me.rf ∧ cats r + (me'.ml + 11) + me'.rl ≤ me.rl ∧ nd (st.take me'.na) = true)
    (hq : calI P m' c (.ref 0 :: as) s fun v s' => wpc P mi me c (pc + 3) ls (.int v :: r) s' Q) : wpc P mi me c pc ls st s Q :=
  wpc_call hf hm hme hst has hg (cal.mono hq fun _ _ ⟨v, e, q⟩ => by subst e; exact q)
theorem wpc_callL {P : Cl} {mi : Nat} {me me' : Me} {c pc x m' : Nat} {ls : Lv} {st r as : List Value} {s : St} {Q : Option Value → St → Prop} {n : Nat} (hf : fetch me.cd pc = some (.invokevirtual x, n)) (hm : asc P.mx x = some m') (hme : asc P.ms m' = some me') (hst : st.drop me'.na = .ref 0 :: r) (has : (st.take me'.na).reverse = as)
    (hg : m' ≠ 0 ∧ me'.rf + 1 ≤ me.rf ∧ cats r + (me'.ml + 11) + me'.rl ≤ me.rl ∧ nd (st.take me'.na) = true)
    (hq : calL P m' c (.ref 0 :: as) s fun v s' => wpc P mi me c (pc + 3) ls (.long v :: r) s' Q) : wpc P mi me c pc ls st s Q :=
  wpc_call hf hm hme hst has hg (cal.mono hq fun _ _ ⟨v, e, q⟩ => by subst e; exact q)
theorem wpc_callV {P : Cl} {mi : Nat} {me me' : Me} {c pc x m' : Nat} {ls : Lv} {st r as : List Value} {s : St} {Q : Option Value → St → Prop} {n : Nat} (hf : fetch me.cd pc = some (.invokevirtual x, n)) (hm : asc P.mx x = some m') (hme : asc P.ms m' = some me') (hst : st.drop me'.na = .ref 0 :: r) (has : (st.take me'.na).reverse = as)
    (hg : m' ≠ 0 ∧ me'.rf + 1 ≤ me.rf ∧ cats r + (me'.ml + 11) + me'.rl ≤ me.rl ∧ nd (st.take me'.na) = true)
    (hq : calV P m' c (.ref 0 :: as) s fun s' => wpc P mi me c (pc + 3) ls r s' Q) : wpc P mi me c pc ls st s Q :=
  wpc_call hf hm hme hst has hg (cal.mono hq fun _ _ ⟨e, q⟩ => by subst e; exact q)
/-- both roads of a value -/
theorem wp_val {p : Prop} [Decidable p] {α : Sort _} {F : α → Prop} {x y : α} (h : F (if p then x else y)) : (p → F x) ∧ (¬ p → F y) := ⟨fun q => by rw [if_pos q] at h; exact h, fun q => by rw [if_neg q] at h; exact h⟩
end Jvm.LM

namespace Jvm.LM
open Sem ClassFile Op Lib Jvm.Stand Jvm.Free Jvm.LawKit Jvm.RoadKit
/-! variables that are not read any more -/
def lle (a b : Lv) : Prop := a.length = b.length ∧ ∀ (k : Nat) (v : Value), a[k]? = some (some v) → b[k]? = some (some v)
def lle' : Lv → Lv → Prop
  | [], [] => True
  | none :: a, _ :: b => lle' a b
  | some v :: a, w :: b => w = some v ∧ lle' a b
  | _, _ => False
theorem lle_of {a b : Lv} (h : lle' a b) : lle a b := by
  induction a generalizing b with
  | nil => cases b with
    | nil => exact ⟨rfl, fun k v hk => hk⟩
    | cons y b => cases h
  | cons x a ih =>
    cases b with
    | nil => cases x <;> cases h
    | cons y b =>
      cases x with
      | none =>
        obtain ⟨h1, h2⟩ := ih (b := b) h
        refine ⟨by simp [h1], fun k v hk => ?_⟩
        cases k with
        | zero => simp at hk
        | succ k => simp at hk ⊢; exact h2 k v hk
      | some x =>
        obtain ⟨e, h⟩ := h
        obtain ⟨h1, h2⟩ := ih (b := b) h
        subst e
        refine ⟨by simp [h1], fun k v hk => ?_⟩
        cases k with
        | zero => exact hk
        | succ k => simp at hk ⊢; exact h2 k v hk
theorem clr_lle {a b : Lv} (h : lle a b) (i : Nat) : (clr a i).length = (clr b i).length ∧ ∀ k v, k ≠ i → (clr a i)[k]? = some (some v) → (clr b i)[k]? = some (some v) := by
  refine ⟨by rw [clr_len, clr_len]; exact h.1, fun k v hk hv => ?_⟩
  obtain ⟨q1, q2⟩ := clr_get hv
  have q3 := h.2 _ _ q1
  cases i with
  | zero => exact q3
  | succ j =>
    simp only [clr]
    split
    · rename_i x e
      rw [List.getElem?_set]
      split
      · rename_i e2; subst e2
        rw [q3] at e; cases e
        exact absurd rfl (q2 rfl)
      · exact q3
    · rename_i x e
      rw [List.getElem?_set]
      split
      · rename_i e2; subst e2
        rw [q3] at e; cases e
        exact absurd rfl (q2 rfl)
      · exact q3
    · exact q3
theorem stl_lle {a b a' : Lv} (h : lle a b) {i : Nat} {v : Value} (hs : stl a i v = some a') : ∃ b', stl b i v = some b' ∧ lle a' b' := by
  obtain ⟨c1, c2⟩ := clr_lle h i
  have hl := h.1
  have one : ∀ w : Value, ∀ k u, ((clr a i).set i (some w))[k]? = some (some u) → ((clr b i).set i (some w))[k]? = some (some u) := fun w k u hk => by
    rw [List.getElem?_set] at hk ⊢
    split
    · rename_i e; rw [if_pos e] at hk; rw [← c1]; exact hk
    · rename_i e; rw [if_neg e] at hk; exact c2 k u (fun q => e q.symm) hk
  unfold stl at hs ⊢
  split at hs
  · rename_i x
    split at hs
    · rename_i q
      cases hs
      refine ⟨((clr b i).set i (some (.long x))).set (i + 1) none, if_pos (by rw [← hl]; exact q), by simp [c1], fun k u hk => ?_⟩
      rw [List.getElem?_set] at hk ⊢
      split
      · rename_i e; rw [if_pos e] at hk; split at hk <;> simp at hk
      · rename_i e; rw [if_neg e] at hk; exact one _ k u hk
    · cases hs
  · split at hs
    · rename_i q
      cases hs
      exact ⟨(clr b i).set i (some v), if_pos (by rw [← hl]; exact q), by simp [c1], fun k u hk => one _ k u hk⟩
    · cases hs
theorem pstep_lle {i : Instr} {pc pc' : Nat} {ls l1 ls' : Lv} {st st' : List Value} (h : pstep i pc ls st = some (pc', l1, st')) (hl : lle ls ls') : ∃ l1', pstep i pc ls' st = some (pc', l1', st') ∧ lle l1 l1' := by
  unfold pstep at h ⊢
  split at h
  all_goals (try dsimp only)
  iterate 6
    · split at h
      · rename_i e; cases h; rw [hl.2 _ _ e]; exact ⟨_, rfl, hl⟩
      · cases h
  iterate 6
    · split at h
      · split at h
        · rename_i e; cases h
          obtain ⟨b', q1, q2⟩ := stl_lle hl e
          rw [q1]; exact ⟨_, rfl, q2⟩
        · cases h
      · cases h
  · split at h
    · rename_i e0
      split at h
      · rename_i e; cases h
        obtain ⟨b', q1, q2⟩ := stl_lle hl e
        rw [hl.2 _ _ e0]; dsimp only; rw [q1]; exact ⟨_, rfl, q2⟩
      · cases h
    · cases h
  · split at h
    · cases h; exact ⟨_, rfl, hl⟩
    · cases h
theorem cstep_lle {P : Cl} {mi : Nat} {me : Me} {rt : Option Value → St → Rs} {cl : Nat → Nat → List Value → St → Rs} {k : Nat → Nat → Lv → List Value → St → Rs} {i : Instr} {c pc : Nat} {ls ls' : Lv} {st : List Value} {s : St} {r : Option Value × St} (hl : lle ls ls')
    (hk : ∀ c pc ls ls' st s, lle ls ls' → k c pc ls st s = some r → k c pc ls' st s = some r) (h : cstep P mi me rt cl k i c pc ls st s = some r) : cstep P mi me rt cl k i c pc ls' st s = some r := by
  unfold cstep at h ⊢
  split at h
  all_goals (try dsimp only)
  · split at h
    · split at h
      · exact hk _ _ _ _ _ _ hl h
      · cases h
    · cases h
  · split at h
    · split at h
      · exact hk _ _ _ _ _ _ hl h
      · cases h
    · cases h
  iterate 6
    · split at h
      · exact hk _ _ _ _ _ _ hl h
      · cases h
  · split at h
    · rename_i q; rw [if_pos q]; exact hk _ _ _ _ _ _ hl h
    · cases h
  iterate 2
    · split at h
      · exact hk _ _ _ _ _ _ hl h
      · cases h
  · split at h
    · split at h
      · rename_i q; rw [if_pos q]; exact hk _ _ _ _ _ _ hl h
      · cases h
    · cases h
  · split at h
    · cases h
    · split at h
      · cases h
      · split at h
        · split at h
          · rename_i q
            rw [if_pos q]
            split at h
            · exact hk _ _ _ _ _ _ hl h
            · exact hk _ _ _ _ _ _ hl h
            · cases h
          · cases h
        · cases h
  · split at h
    · rename_i q; rw [if_pos q]; exact h
    · rename_i q; rw [if_neg q]
      split at h
      · rename_i e
        obtain ⟨l1', q1, q2⟩ := pstep_lle e hl
        rw [q1]; exact hk _ _ _ _ _ _ q2 h
      · cases h
theorem cexec_lle {P : Cl} : ∀ f mi me c pc ls ls' st s r, lle ls ls' → cexec P f mi me c pc ls st s = some r → cexec P f mi me c pc ls' st s = some r := by
  intro f
  induction f with
  | zero => intro mi me c pc ls ls' st s r _ h; cases h
  | succ f ih =>
    intro mi me c pc ls ls' st s r hl h
    rw [cexec] at h ⊢
    split at h
    · cases h
    · exact cstep_lle hl (fun c pc ls ls' st s hl h => ih _ _ _ _ _ _ _ _ _ hl h) h
theorem wpc_lle {P : Cl} {mi : Nat} {me : Me} {c pc : Nat} {ls ls' : Lv} {st : List Value} {s : St} {Q : Option Value → St → Prop} (hl : lle' ls ls') (h : wpc P mi me c pc ls st s Q) : wpc P mi me c pc ls' st s Q := by
  obtain ⟨f, v, s', h1, h2⟩ := h; exact ⟨f, v, s', cexec_lle _ _ _ _ _ _ _ _ _ _ (lle_of hl) h1, h2⟩
end Jvm.LM

namespace Jvm.LM
open Sem ClassFile Op Lib Jvm.Stand Jvm.Free Jvm.LawKit Jvm.RoadKit
theorem lstep_mono {α : Type} {P : Cl} {Q : Lw} {sc : Sc} {mi : Nat} {me : Me} {rt : Option Value → Wd → Option α} {cc cc' : Nat → Nat → List Value → St → Rs} {cl cl' : Nat → List Value → Wd → Rw} {k k' : Nat → Lv → List Value → Wd → Option α} {i : Instr} {pc : Nat} {ls : Lv} {st : List Value} {w : Wd} {r : α}
    (hcc : ∀ m c as s r, cc m c as s = some r → cc' m c as s = some r) (hcl : ∀ m as s r, cl m as s = some r → cl' m as s = some r) (hk : ∀ pc ls st s r, k pc ls st s = some r → k' pc ls st s = some r) (h : lstep P Q sc mi me rt cc cl k i pc ls st w = some r) : lstep P Q sc mi me rt cc' cl' k' i pc ls st w = some r := by
  unfold lstep at h ⊢
  split at h
  all_goals (try dsimp only)
  · split at h
    · split at h
      · rename_i q; rw [if_pos q]; exact hk _ _ _ _ _ h
      · cases h
    · cases h
  · split at h
    · exact hk _ _ _ _ _ h
    · cases h
  · split at h
    · exact hk _ _ _ _ _ h
    · cases h
  · split at h
    · exact hk _ _ _ _ _ h
    · cases h
  · split at h
    · rename_i q; rw [if_pos q]; exact hk _ _ _ _ _ h
    · cases h
  · split at h
    · cases h
    · split at h
      · split at h
        · rename_i q
          rw [if_pos q]
          split at h
          · rename_i s1 hc; rw [hcc _ _ _ _ _ hc]; exact hk _ _ _ _ _ h
          · cases h
        · cases h
      · cases h
  · split at h
    · cases h
    · split at h
      · cases h
      · split at h
        · split at h
          · rename_i q
            rw [if_pos q]
            split at h
            · rename_i s1 hc; rw [hcc _ _ _ _ _ hc]; exact hk _ _ _ _ _ h
            · rename_i v1 s1 hc; rw [hcc _ _ _ _ _ hc]; exact hk _ _ _ _ _ h
            · cases h
          · cases h
        · cases h
  · split at h
    · cases h
    · split at h
      · cases h
      · split at h
        · rename_i q
          rw [if_pos q]
          split at h
          · rename_i s1 hc; rw [hcl _ _ _ _ hc]; exact hk _ _ _ _ _ h
          · rename_i v1 s1 hc; rw [hcl _ _ _ _ hc]; exact hk _ _ _ _ _ h
          · cases h
        · cases h
  · split at h
    · rename_i q; rw [if_pos q]; exact h
    · rename_i q; rw [if_neg q]
      split at h
      · exact hk _ _ _ _ _ h
      · cases h
theorem lexec_succ {P : Cl} {Q : Lw} {sc : Sc} : ∀ f mi me pc ls st w r, lexec P Q sc f mi me pc ls st w = some r → lexec P Q sc (f + 1) mi me pc ls st w = some r := by
  intro f
  induction f with
  | zero => intro mi me pc ls st s r h; cases h
  | succ f ih =>
    intro mi me pc ls st s r h
    rw [lexec] at h ⊢
    split at h
    · cases h
    · refine lstep_mono (fun m c as s r h => ccall_le (Nat.le_succ _) h) (fun m as s r h => ?_) (fun pc ls st s r h => ih _ _ _ _ _ _ _ h) h
      split at h
      · split at h
        · rename_i q; rw [if_pos q]; exact ih _ _ _ _ _ _ _ h
        · cases h
      · cases h
theorem lexec_le {P : Cl} {Q : Lw} {sc : Sc} {f g mi : Nat} {me : Me} {pc : Nat} {ls : Lv} {st : List Value} {w : Wd} {r : Option Value × Wd} (hfg : f ≤ g) (h : lexec P Q sc f mi me pc ls st w = some r) : lexec P Q sc g mi me pc ls st w = some r := by
  obtain ⟨d, rfl⟩ := Nat.le.dest hfg
  induction d with
  | zero => exact h
  | succ d ih => exact lexec_succ _ _ _ _ _ _ _ _ (ih (Nat.le_add_right _ _))
theorem lcall_le {P : Cl} {Q : Lw} {sc : Sc} {f g m' : Nat} {as : List Value} {w : Wd} {r : Option Value × Wd} (hfg : f ≤ g) (h : lcall P Q sc f m' as w = some r) : lcall P Q sc g m' as w = some r := by
  unfold lcall at h ⊢
  split at h
  · split at h
    · rename_i q; rw [if_pos q]; exact lexec_le hfg h
    · cases h
  · cases h
def wpl (P : Cl) (Q : Lw) (sc : Sc) (mi : Nat) (me : Me) (pc : Nat) (ls : Lv) (st : List Value) (w : Wd) (R : Option Value → Wd → Prop) : Prop := ∃ f v w', lexec P Q sc f mi me pc ls st w = some (v, w') ∧ R v w'
def lal (P : Cl) (Q : Lw) (sc : Sc) (m' : Nat) (as : List Value) (w : Wd) (R : Option Value → Wd → Prop) : Prop := ∃ f v w', lcall P Q sc f m' as w = some (v, w') ∧ R v w'
def lalI (P : Cl) (Q : Lw) (sc : Sc) (m' : Nat) (as : List Value) (w : Wd) (R : Int32 → Wd → Prop) : Prop := lal P Q sc m' as w fun r w' => ∃ v, r = some (.int v) ∧ R v w'
def lalL (P : Cl) (Q : Lw) (sc : Sc) (m' : Nat) (as : List Value) (w : Wd) (R : Int64 → Wd → Prop) : Prop := lal P Q sc m' as w fun r w' => ∃ v, r = some (.long v) ∧ R v w'
def lalV (P : Cl) (Q : Lw) (sc : Sc) (m' : Nat) (as : List Value) (w : Wd) (R : Wd → Prop) : Prop := lal P Q sc m' as w fun r w' => r = none ∧ R w'
theorem lal.mono {P : Cl} {Q : Lw} {sc : Sc} {m' : Nat} {as : List Value} {w : Wd} {R R' : Option Value → Wd → Prop} (h : lal P Q sc m' as w R) (hq : ∀ v s', R v s' → R' v s') : lal P Q sc m' as w R' := by
  obtain ⟨f, v, s', h1, h2⟩ := h; exact ⟨f, v, s', h1, hq _ _ h2⟩
theorem lalI.mono {P : Cl} {Q : Lw} {sc : Sc} {m' : Nat} {as : List Value} {w : Wd} {R R' : Int32 → Wd → Prop} (h : lalI P Q sc m' as w R) (hq : ∀ v s', R v s' → R' v s') : lalI P Q sc m' as w R' := lal.mono h fun _ _ ⟨v, e, q⟩ => ⟨v, e, hq _ _ q⟩
theorem lalL.mono {P : Cl} {Q : Lw} {sc : Sc} {m' : Nat} {as : List Value} {w : Wd} {R R' : Int64 → Wd → Prop} (h : lalL P Q sc m' as w R) (hq : ∀ v s', R v s' → R' v s') : lalL P Q sc m' as w R' := lal.mono h fun _ _ ⟨v, e, q⟩ => ⟨v, e, hq _ _ q⟩
theorem lalV.mono {P : Cl} {Q : Lw} {sc : Sc} {m' : Nat} {as : List Value} {w : Wd} {R R' : Wd → Prop} (h : lalV P Q sc m' as w R) (hq : ∀ s', R s' → R' s') : lalV P Q sc m' as w R' := lal.mono h fun _ _ ⟨e, q⟩ => ⟨e, hq _ q⟩
theorem wpl.mono {P : Cl} {Q : Lw} {sc : Sc} {mi : Nat} {me : Me} {pc : Nat} {ls : Lv} {st : List Value} {w : Wd} {R R' : Option Value → Wd → Prop} (h : wpl P Q sc mi me pc ls st w R) (hq : ∀ v s', R v s' → R' v s') : wpl P Q sc mi me pc ls st w R' := by
  obtain ⟨f, v, s', h1, h2⟩ := h; exact ⟨f, v, s', h1, hq _ _ h2⟩
theorem wpl_one {P : Cl} {Q : Lw} {sc : Sc} {mi : Nat} {me : Me} {pc pc' : Nat} {ls ls' : Lv} {st st' : List Value} {w w' : Wd} {R : Option Value → Wd → Prop} {i : Instr} {n : Nat} (hf : fetch me.cd pc = some (i, n))
    (h : ∀ (rt : Option Value → Wd → Rw) cc cl (k : Nat → Lv → List Value → Wd → Rw), lstep P Q sc mi me rt cc cl k i pc ls st w = k pc' ls' st' w') (hq : wpl P Q sc mi me pc' ls' st' w' R) : wpl P Q sc mi me pc ls st w R := by
  obtain ⟨f, v, s2, h1, h2⟩ := hq
  refine ⟨f + 1, v, s2, ?_, h2⟩
  rw [lexec, hf]; dsimp only; rw [h]; exact h1
/-- plain steps: nothing of the heap, no call -/
def isPl : Instr → Bool
  | .iaload => false | .arraylength => false | .ldc _ => false | .ldc2_w _ => false | .new _ => false | .invokespecial _ => false | .invokevirtual _ => false | .invokestatic _ => false
  | .ireturn => false | .lreturn => false | .return_ => false
  | _ => true
theorem lstep_pl {α : Type} {P : Cl} {Q : Lw} {sc : Sc} {mi : Nat} {me : Me} {rt : Option Value → Wd → Option α} {cc : Nat → Nat → List Value → St → Rs} {cl : Nat → List Value → Wd → Rw} {k : Nat → Lv → List Value → Wd → Option α} {i : Instr} {pc : Nat} {ls : Lv} {st : List Value} {w : Wd} (hi : isPl i = true) :
    lstep P Q sc mi me rt cc cl k i pc ls st w = match pstep i pc ls st with | some (pc', ls', st') => k pc' ls' st' w | none => none := by
  cases i <;> first | (cases hi; done) | rfl
def psl (kx : List (Nat × Value)) (cd : Cd) : Nat → Nat → Lv → List Value → Option (Nat × Lv × List Value)
  | 0, pc, ls, st => some (pc, ls, st)
  | n + 1, pc, ls, st => match fetch cd pc with
    | none => none
    | some (i, _) => match i with
      | .ldc x => (match asc kx x with | some (.int z) => psl kx cd n (pc + 2) ls (.int z :: st) | _ => none)
      | .ldc2_w x => (match asc kx x with | some (.long z) => psl kx cd n (pc + 3) ls (.long z :: st) | _ => none)
      | i => if isPl i = true then (match pstep i pc ls st with | some (pc', ls', st') => psl kx cd n pc' ls' st' | none => none) else none
theorem wpl_sl {P : Cl} {Q : Lw} {sc : Sc} {mi : Nat} {me : Me} {w : Wd} {R : Option Value → Wd → Prop} : ∀ {n pc pc' : Nat} {ls ls' : Lv} {st st' : List Value}, psl Q.kx me.cd n pc ls st = some (pc', ls', st') → wpl P Q sc mi me pc' ls' st' w R → wpl P Q sc mi me pc ls st w R := by
  intro n
  induction n with
  | zero => intro pc pc' ls ls' st st' h hq; cases h; exact hq
  | succ n ih =>
    intro pc pc' ls ls' st st' h hq
    simp only [psl] at h
    split at h
    · cases h
    · rename_i i m hf
      split at h
      · split at h
        · rename_i z e
          exact wpl_one hf (fun rt cc cl k => by simp only [lstep, e]) (ih h hq)
        · cases h
      · split at h
        · rename_i z e
          exact wpl_one hf (fun rt cc cl k => by simp only [lstep, e]) (ih h hq)
        · cases h
      · split at h
        · rename_i hi
          split at h
          · rename_i pc1 ls1 st1 e
            exact wpl_one hf (fun rt cc cl k => by rw [lstep_pl hi, e]) (ih h hq)
          · cases h
        · cases h
theorem wpl_ret {P : Cl} {Q : Lw} {sc : Sc} {mi : Nat} {me : Me} {pc : Nat} {ls : Lv} {st : List Value} {w : Wd} {R : Option Value → Wd → Prop} {i : Instr} {n : Nat} {v : Option Value} (hf : fetch me.cd pc = some (i, n)) (hr : isRet i = true) (h : cret me st i = some v) (hq : R v w) : wpl P Q sc mi me pc ls st w R := by
  refine ⟨1, v, w, ?_, hq⟩
  rw [lexec, hf]; dsimp only
  cases i <;> first | (cases hr; done) | (simp only [lstep]; rw [if_pos hr, h])
theorem wpl_if {P : Cl} {Q : Lw} {sc : Sc} {mi : Nat} {me : Me} {pc a b : Nat} {ls : Lv} {r : List Value} {w : Wd} {R : Option Value → Wd → Prop} {cd : ClassFile.Cond} {o : Int} {n : Nat} {x : Int32} (hf : fetch me.cd pc = some (.ifCond cd o, n)) (ho : 0 ≤ (pc : Int) + o) (ha : jmp pc o = a) (hb : pc + 3 = b)
    (hq : wpl P Q sc mi me (br cd x 0 a b) ls r w R) : wpl P Q sc mi me pc ls (.int x :: r) w R := by
  subst ha hb
  refine wpl_one hf (fun rt cc cl k => ?_) hq
  rw [lstep_pl rfl]
  simp only [pstep, qstep]; rw [if_pos ho]
theorem wpl_icmp {P : Cl} {Q : Lw} {sc : Sc} {mi : Nat} {me : Me} {pc a b : Nat} {ls : Lv} {r : List Value} {w : Wd} {R : Option Value → Wd → Prop} {cd : ClassFile.Cond} {o : Int} {n : Nat} {x y : Int32} (hf : fetch me.cd pc = some (.if_icmp cd o, n)) (ho : 0 ≤ (pc : Int) + o) (ha : jmp pc o = a) (hb : pc + 3 = b)
    (hq : wpl P Q sc mi me (br cd x y a b) ls r w R) : wpl P Q sc mi me pc ls (.int y :: .int x :: r) w R := by
  subst ha hb
  refine wpl_one hf (fun rt cc cl k => ?_) hq
  rw [lstep_pl rfl]
  simp only [pstep, qstep]; rw [if_pos ho]
theorem wpl_br {P : Cl} {Q : Lw} {sc : Sc} {mi : Nat} {me : Me} {a b : Nat} {ls : Lv} {st : List Value} {w : Wd} {R : Option Value → Wd → Prop} {p : Prop} [Decidable p] (h : (p → wpl P Q sc mi me a ls st w R) ∧ (¬ p → wpl P Q sc mi me b ls st w R)) : wpl P Q sc mi me (if p then a else b) ls st w R := by
  by_cases hp : p
  · rw [if_pos hp]; exact h.1 hp
  · rw [if_neg hp]; exact h.2 hp
theorem wpl_lda {P : Cl} {Q : Lw} {N : Nat} {g : Nat → Int32} {mi : Nat} {me : Me} {pc : Nat} {ls : Lv} {r : List Value} {w : Wd} {R : Option Value → Wd → Prop} {n : Nat} {j : Int32} (hf : fetch me.cd pc = some (.iaload, n)) (hj : inb N j) (hq : wpl P Q (some (N, g)) mi me (pc + 1) ls (.int (g (ix j)) :: r) w R) : wpl P Q (some (N, g)) mi me pc ls (.int j :: .ref 0 :: r) w R := by
  refine wpl_one hf (fun rt cc cl k => ?_) hq
  simp only [lstep]; rw [if_pos hj]
theorem wpl_len {P : Cl} {Q : Lw} {N : Nat} {g : Nat → Int32} {mi : Nat} {me : Me} {pc : Nat} {ls : Lv} {r : List Value} {w : Wd} {R : Option Value → Wd → Prop} {n : Nat} (hf : fetch me.cd pc = some (.arraylength, n)) (hq : wpl P Q (some (N, g)) mi me (pc + 1) ls (.int (Int32.ofNat N) :: r) w R) : wpl P Q (some (N, g)) mi me pc ls (.ref 0 :: r) w R := by
  refine wpl_one hf (fun rt cc cl k => ?_) hq
  simp only [lstep]
theorem wpl_new {P : Cl} {Q : Lw} {sc : Sc} {me : Me} {pc cnt : Nat} {ls : Lv} {st : List Value} {os : Nat → St} {R : Option Value → Wd → Prop} {n x : Nat} (hf : fetch me.cd pc = some (.new x, n)) (hx : x = Q.cx) (h1 : (cnt + 1) * (P.al.length + 1) ≤ Q.rc) (h2 : (cnt + 1) * (Q.nf + zs P.al P.al.length) ≤ Q.rs)
    (hq : wpl P Q sc 0 me (pc + 3) ls (.ref (cnt + 1) :: st) (uo os cnt s0, cnt, true) R) : wpl P Q sc 0 me pc ls st (os, cnt, false) R := by
  refine wpl_one hf (fun rt cc cl k => ?_) hq
  simp only [lstep]; rw [if_pos ⟨trivial, hx, trivial, h1, h2⟩]
theorem wpl_ctor {P : Cl} {Q : Lw} {sc : Sc} {me me' : Me} {pc cnt : Nat} {ls : Lv} {st r as : List Value} {os : Nat → St} {R : Option Value → Wd → Prop} {n x : Nat} (hf : fetch me.cd pc = some (.invokespecial x, n)) (hx : x = Q.ci) (hme : asc P.ms 0 = some me') (hst : st.drop me'.na = .ref (cnt + 1) :: r) (has : (st.take me'.na).reverse = as)
    (hg : me'.rf + 1 ≤ me.rf ∧ cats r + (me'.ml + 11) + me'.rl ≤ me.rl ∧ nr (st.take me'.na) = true ∧ (cnt + 1) * (P.al.length + 1) ≤ Q.rc ∧ (cnt + 1) * (Q.nf + zs P.al P.al.length) ≤ Q.rs)
    (hq : calV P 0 0 (.ref 0 :: as) (os cnt) fun s' => wpl P Q sc 0 me (pc + 3) ls r (uo os cnt s', cnt + 1, false) R) : wpl P Q sc 0 me pc ls st (os, cnt, true) R := by
  subst has
  obtain ⟨f1, v, s1, h1, rfl, f2, v2, s2, h2, h3⟩ := hq
  refine ⟨max f1 f2 + 1, v2, s2, ?_, h3⟩
  have h1' := ccall_le (Nat.le_max_left f1 f2) h1
  have h2' := lexec_le (Nat.le_max_right f1 f2) h2
  rw [lexec, hf]; dsimp only
  simp only [lstep, hme, hst]
  rw [if_pos ⟨hx, trivial, trivial, trivial, hg⟩, h1']
  exact h2'
theorem wpl_call {P : Cl} {Q : Lw} {sc : Sc} {mi : Nat} {me me' : Me} {pc x m' o : Nat} {ls : Lv} {st r as : List Value} {w : Wd} {R : Option Value → Wd → Prop} {n : Nat} (hf : fetch me.cd pc = some (.invokevirtual x, n)) (hm : asc Q.vx x = some m') (hme : asc P.ms m' = some me') (hst : st.drop me'.na = .ref (o + 1) :: r) (has : (st.take me'.na).reverse = as)
    (hg : m' ≠ 0 ∧ o < w.2.1 ∧ me'.rf + 1 ≤ me.rf ∧ cats r + (me'.ml + 11) + me'.rl ≤ me.rl ∧ nr (st.take me'.na) = true)
    (hq : cal P m' P.al.length (.ref 0 :: as) (w.1 o) fun v s' => wpl P Q sc mi me (pc + 3) ls (v.toList ++ r) (uo w.1 o s', w.2.1, w.2.2) R) : wpl P Q sc mi me pc ls st w R := by
  subst has
  obtain ⟨f1, v, s1, h1, f2, v2, s2, h2, h3⟩ := hq
  refine ⟨max f1 f2 + 1, v2, s2, ?_, h3⟩
  have h1' := ccall_le (Nat.le_max_left f1 f2) h1
  have h2' := lexec_le (Nat.le_max_right f1 f2) h2
  rw [lexec, hf]; dsimp only
  simp only [lstep, hm, hme, hst]
  rw [if_pos hg, h1']
  cases v <;> exact h2'
theorem wpl_stat {P : Cl} {Q : Lw} {sc : Sc} {mi : Nat} {me me' : Me} {pc x m' : Nat} {ls : Lv} {st r as : List Value} {w : Wd} {R : Option Value → Wd → Prop} {n : Nat} (hf : fetch me.cd pc = some (.invokestatic x, n)) (hm : asc Q.sx x = some m') (hme : asc Q.ms m' = some me') (hst : st.drop me'.na = r) (has : (st.take me'.na).reverse = as)
    (hg : m' ≠ 0 ∧ me'.na ≤ st.length ∧ me'.rf + 1 ≤ me.rf ∧ cats r + (me'.ml + 11) + me'.rl ≤ me.rl ∧ nd (st.take me'.na) = true)
    (hq : lal P Q sc m' as w fun v w' => wpl P Q sc mi me (pc + 3) ls (v.toList ++ r) w' R) : wpl P Q sc mi me pc ls st w R := by
  subst has hst
  obtain ⟨f1, v, s1, h1, f2, v2, s2, h2, h3⟩ := hq
  refine ⟨max f1 f2 + 1, v2, s2, ?_, h3⟩
  have h1' := lcall_le (Nat.le_max_left f1 f2) h1
  have h2' := lexec_le (Nat.le_max_right f1 f2) h2
  rw [lexec, hf]; dsimp only
  simp only [lstep, hm, hme]
  rw [if_pos hg]
  simp only [lcall, hme] at h1'
  rw [h1']
  cases v <;> exact h2'
theorem lal_of {P : Cl} {Q : Lw} {sc : Sc} {m' : Nat} {as : List Value} {w : Wd} {R : Option Value → Wd → Prop} {me : Me} {ls : Lv} (hme : asc Q.ms m' = some me) (hl : (layA as).length ≤ me.ml) (hls : lay as me.ml = ls) (h : wpl P Q sc m' me 0 ls [] w R) : lal P Q sc m' as w R := by
  subst hls
  obtain ⟨f, v, s', h1, h2⟩ := h
  refine ⟨f, v, s', ?_, h2⟩
  simp only [lcall, hme]; rw [if_pos hl]; exact h1
theorem lstep_lle {P : Cl} {Q : Lw} {sc : Sc} {mi : Nat} {me : Me} {rt : Option Value → Wd → Rw} {cc : Nat → Nat → List Value → St → Rs} {cl : Nat → List Value → Wd → Rw} {k : Nat → Lv → List Value → Wd → Rw} {i : Instr} {pc : Nat} {ls ls' : Lv} {st : List Value} {w : Wd} {r : Option Value × Wd} (hl : lle ls ls')
    (hk : ∀ pc ls ls' st s, lle ls ls' → k pc ls st s = some r → k pc ls' st s = some r) (h : lstep P Q sc mi me rt cc cl k i pc ls st w = some r) : lstep P Q sc mi me rt cc cl k i pc ls' st w = some r := by
  unfold lstep at h ⊢
  split at h
  all_goals (try dsimp only)
  · split at h
    · split at h
      · rename_i q; rw [if_pos q]; exact hk _ _ _ _ _ hl h
      · cases h
    · cases h
  iterate 3
    · split at h
      · exact hk _ _ _ _ _ hl h
      · cases h
  · split at h
    · rename_i q; rw [if_pos q]; exact hk _ _ _ _ _ hl h
    · cases h
  · split at h
    · cases h
    · split at h
      · split at h
        · rename_i q
          rw [if_pos q]
          split at h
          · exact hk _ _ _ _ _ hl h
          · cases h
        · cases h
      · cases h
  · split at h
    · cases h
    · split at h
      · cases h
      · split at h
        · split at h
          · rename_i q
            rw [if_pos q]
            split at h
            · exact hk _ _ _ _ _ hl h
            · exact hk _ _ _ _ _ hl h
            · cases h
          · cases h
        · cases h
  · split at h
    · cases h
    · split at h
      · cases h
      · split at h
        · rename_i q
          rw [if_pos q]
          split at h
          · exact hk _ _ _ _ _ hl h
          · exact hk _ _ _ _ _ hl h
          · cases h
        · cases h
  · split at h
    · rename_i q; rw [if_pos q]; exact h
    · rename_i q; rw [if_neg q]
      split at h
      · rename_i e
        obtain ⟨l1', q1, q2⟩ := pstep_lle e hl
        rw [q1]; exact hk _ _ _ _ _ q2 h
      · cases h
theorem lexec_lle {P : Cl} {Q : Lw} {sc : Sc} : ∀ f mi me pc ls ls' st w r, lle ls ls' → lexec P Q sc f mi me pc ls st w = some r → lexec P Q sc f mi me pc ls' st w = some r := by
  intro f
  induction f with
  | zero => intro mi me pc ls ls' st w r _ h; cases h
  | succ f ih =>
    intro mi me pc ls ls' st w r hl h
    rw [lexec] at h ⊢
    split at h
    · cases h
    · exact lstep_lle hl (fun pc ls ls' st s hl h => ih _ _ _ _ _ _ _ _ hl h) h
theorem wpl_lle {P : Cl} {Q : Lw} {sc : Sc} {mi : Nat} {me : Me} {pc : Nat} {ls ls' : Lv} {st : List Value} {w : Wd} {R : Option Value → Wd → Prop} (hl : lle' ls ls') (h : wpl P Q sc mi me pc ls st w R) : wpl P Q sc mi me pc ls' st w R := by
  obtain ⟨f, v, s', h1, h2⟩ := h; exact ⟨f, v, s', lexec_lle _ _ _ _ _ _ _ _ _ (lle_of hl) h1, h2⟩
/-! worlds of no, one and two objects -/
def W0 : Wd := (fun _ => s0, 0, false)
def W0p : Wd := (uo (fun _ => s0) 0 s0, 0, true)
def W1 (s : St) : Wd := (uo (fun _ => s0) 0 s, 1, false)
def W1p (s : St) : Wd := (uo (uo (fun _ => s0) 0 s) 1 s0, 1, true)
def W2 (s t : St) : Wd := (uo (uo (fun _ => s0) 0 s) 1 t, 2, false)
theorem uo_uo (f : Nat → St) (o : Nat) (s t : St) : uo (uo f o s) o t = uo f o t := by
  funext i; simp only [uo]; split <;> rfl
theorem uo_swap (f : Nat → St) {o o' : Nat} (h : o ≠ o') (s t : St) : uo (uo f o s) o' t = uo (uo f o' t) o s := by
  funext i; simp only [uo]
  by_cases a : i = o
  · subst a; simp [h]
  · by_cases b : i = o'
    · subst b; simp [Ne.symm h]
    · simp [a, b]
section Worlds
variable {P : Cl} {Q : Lw} {sc : Sc} {mi : Nat} {me me' : Me} {pc x m' : Nat} {ls : Lv} {st r as : List Value} {R : Option Value → Wd → Prop} {n : Nat} {s t : St}
theorem wpl_new0 (hf : fetch me.cd pc = some (.new x, n)) (hx : x = Q.cx) (h1 : 1 * (P.al.length + 1) ≤ Q.rc) (h2 : 1 * (Q.nf + zs P.al P.al.length) ≤ Q.rs) (hq : wpl P Q sc 0 me (pc + 3) ls (.ref 1 :: st) W0p R) : wpl P Q sc 0 me pc ls st W0 R := wpl_new (cnt := 0) hf hx h1 h2 hq
theorem wpl_new1 (hf : fetch me.cd pc = some (.new x, n)) (hx : x = Q.cx) (h1 : 2 * (P.al.length + 1) ≤ Q.rc) (h2 : 2 * (Q.nf + zs P.al P.al.length) ≤ Q.rs) (hq : wpl P Q sc 0 me (pc + 3) ls (.ref 2 :: st) (W1p s) R) : wpl P Q sc 0 me pc ls st (W1 s) R := wpl_new (cnt := 1) hf hx h1 h2 hq
theorem wpl_ctor0 (hf : fetch me.cd pc = some (.invokespecial x, n)) (hx : x = Q.ci) (hme : asc P.ms 0 = some me') (hst : st.drop me'.na = .ref 1 :: r) (has : (st.take me'.na).reverse = as)
    (hg : me'.rf + 1 ≤ me.rf ∧ cats r + (me'.ml + 11) + me'.rl ≤ me.rl ∧ nr (st.take me'.na) = true ∧ 1 * (P.al.length + 1) ≤ Q.rc ∧ 1 * (Q.nf + zs P.al P.al.length) ≤ Q.rs)
    (hq : calV P 0 0 (.ref 0 :: as) s0 fun s' => wpl P Q sc 0 me (pc + 3) ls r (W1 s') R) : wpl P Q sc 0 me pc ls st W0p R := by
  refine wpl_ctor (cnt := 0) hf hx hme hst has hg ?_
  refine calV.mono (show calV P 0 0 (.ref 0 :: as) (uo (fun _ => s0) 0 s0 0) _ from hq) fun s' h => ?_
  rw [uo_uo]; exact h
theorem wpl_ctor1 (hf : fetch me.cd pc = some (.invokespecial x, n)) (hx : x = Q.ci) (hme : asc P.ms 0 = some me') (hst : st.drop me'.na = .ref 2 :: r) (has : (st.take me'.na).reverse = as)
    (hg : me'.rf + 1 ≤ me.rf ∧ cats r + (me'.ml + 11) + me'.rl ≤ me.rl ∧ nr (st.take me'.na) = true ∧ 2 * (P.al.length + 1) ≤ Q.rc ∧ 2 * (Q.nf + zs P.al P.al.length) ≤ Q.rs)
    (hq : calV P 0 0 (.ref 0 :: as) s0 fun s' => wpl P Q sc 0 me (pc + 3) ls r (W2 s s') R) : wpl P Q sc 0 me pc ls st (W1p s) R := by
  refine wpl_ctor (cnt := 1) hf hx hme hst has hg ?_
  refine calV.mono (show calV P 0 0 (.ref 0 :: as) (uo (uo (fun _ => s0) 0 s) 1 s0 1) _ from hq) fun s' h => ?_
  rw [uo_uo]; exact h
theorem wpl_v1 (hf : fetch me.cd pc = some (.invokevirtual x, n)) (hm : asc Q.vx x = some m') (hme : asc P.ms m' = some me') (hst : st.drop me'.na = .ref 1 :: r) (has : (st.take me'.na).reverse = as)
    (hg : m' ≠ 0 ∧ me'.rf + 1 ≤ me.rf ∧ cats r + (me'.ml + 11) + me'.rl ≤ me.rl ∧ nr (st.take me'.na) = true)
    (hq : cal P m' P.al.length (.ref 0 :: as) s fun v s' => wpl P Q sc mi me (pc + 3) ls (v.toList ++ r) (W1 s') R) : wpl P Q sc mi me pc ls st (W1 s) R := by
  refine wpl_call (o := 0) hf hm hme hst has ⟨hg.1, by show 0 < 1; decide, hg.2⟩ ?_
  refine cal.mono (show cal P m' P.al.length (.ref 0 :: as) ((W1 s).1 0) _ from hq) fun v s' h => ?_
  show wpl P Q sc mi me (pc + 3) ls (v.toList ++ r) (uo (uo (fun _ => s0) 0 s) 0 s', 1, false) R
  rw [uo_uo]; exact h
theorem wpl_v2a (hf : fetch me.cd pc = some (.invokevirtual x, n)) (hm : asc Q.vx x = some m') (hme : asc P.ms m' = some me') (hst : st.drop me'.na = .ref 1 :: r) (has : (st.take me'.na).reverse = as)
    (hg : m' ≠ 0 ∧ me'.rf + 1 ≤ me.rf ∧ cats r + (me'.ml + 11) + me'.rl ≤ me.rl ∧ nr (st.take me'.na) = true)
    (hq : cal P m' P.al.length (.ref 0 :: as) s fun v s' => wpl P Q sc mi me (pc + 3) ls (v.toList ++ r) (W2 s' t) R) : wpl P Q sc mi me pc ls st (W2 s t) R := by
  refine wpl_call (o := 0) hf hm hme hst has ⟨hg.1, by show 0 < 2; decide, hg.2⟩ ?_
  refine cal.mono (show cal P m' P.al.length (.ref 0 :: as) ((W2 s t).1 0) _ from hq) fun v s' h => ?_
  show wpl P Q sc mi me (pc + 3) ls (v.toList ++ r) (uo (uo (uo (fun _ => s0) 0 s) 1 t) 0 s', 2, false) R
  rw [uo_swap _ (by decide), uo_uo]; exact h
theorem wpl_v2b (hf : fetch me.cd pc = some (.invokevirtual x, n)) (hm : asc Q.vx x = some m') (hme : asc P.ms m' = some me') (hst : st.drop me'.na = .ref 2 :: r) (has : (st.take me'.na).reverse = as)
    (hg : m' ≠ 0 ∧ me'.rf + 1 ≤ me.rf ∧ cats r + (me'.ml + 11) + me'.rl ≤ me.rl ∧ nr (st.take me'.na) = true)
    (hq : cal P m' P.al.length (.ref 0 :: as) t fun v s' => wpl P Q sc mi me (pc + 3) ls (v.toList ++ r) (W2 s s') R) : wpl P Q sc mi me pc ls st (W2 s t) R := by
  refine wpl_call (o := 1) hf hm hme hst has ⟨hg.1, by show 1 < 2; decide, hg.2⟩ ?_
  refine cal.mono (show cal P m' P.al.length (.ref 0 :: as) ((W2 s t).1 1) _ from hq) fun v s' h => ?_
  show wpl P Q sc mi me (pc + 3) ls (v.toList ++ r) (uo (uo (uo (fun _ => s0) 0 s) 1 t) 1 s', 2, false) R
  rw [uo_uo]; exact h
end Worlds
theorem cal_I {P : Cl} {m' c : Nat} {as : List Value} {s : St} {F : Option Value → St → Prop} (h : calI P m' c as s fun v s' => F (some (.int v)) s') : cal P m' c as s F := cal.mono h fun _ _ ⟨v, e, q⟩ => by subst e; exact q
theorem cal_L {P : Cl} {m' c : Nat} {as : List Value} {s : St} {F : Option Value → St → Prop} (h : calL P m' c as s fun v s' => F (some (.long v)) s') : cal P m' c as s F := cal.mono h fun _ _ ⟨v, e, q⟩ => by subst e; exact q
theorem cal_V {P : Cl} {m' c : Nat} {as : List Value} {s : St} {F : Option Value → St → Prop} (h : calV P m' c as s fun s' => F none s') : cal P m' c as s F := cal.mono h fun _ _ ⟨e, q⟩ => by subst e; exact q
theorem lal_I {P : Cl} {Q : Lw} {sc : Sc} {m' : Nat} {as : List Value} {w : Wd} {F : Option Value → Wd → Prop} (h : lalI P Q sc m' as w fun v w' => F (some (.int v)) w') : lal P Q sc m' as w F := lal.mono h fun _ _ ⟨v, e, q⟩ => by subst e; exact q
theorem lal_L {P : Cl} {Q : Lw} {sc : Sc} {m' : Nat} {as : List Value} {w : Wd} {F : Option Value → Wd → Prop} (h : lalL P Q sc m' as w fun v w' => F (some (.long v)) w') : lal P Q sc m' as w F := lal.mono h fun _ _ ⟨v, e, q⟩ => by subst e; exact q
theorem lal_V {P : Cl} {Q : Lw} {sc : Sc} {m' : Nat} {as : List Value} {w : Wd} {F : Option Value → Wd → Prop} (h : lalV P Q sc m' as w fun w' => F none w') : lal P Q sc m' as w F := lal.mono h fun _ _ ⟨e, q⟩ => by subst e; exact q
end Jvm.LM

namespace Jvm.LM
open Sem ClassFile Op Lib Jvm.Stand Jvm.Free Jvm.LawKit Jvm.RoadKit
/-! rules for the steps that ask something -/
abbrev wpcI (P : Cl) (mi : Nat) (me : Me) (c pc : Nat) (ls : Lv) (st : List Value) (s : St) (Q : Int32 → St → Prop) : Prop := wpc P mi me c pc ls st s fun r s' => ∃ v, r = some (.int v) ∧ Q v s'
abbrev wpcL (P : Cl) (mi : Nat) (me : Me) (c pc : Nat) (ls : Lv) (st : List Value) (s : St) (Q : Int64 → St → Prop) : Prop := wpc P mi me c pc ls st s fun r s' => ∃ v, r = some (.long v) ∧ Q v s'
abbrev wpcV (P : Cl) (mi : Nat) (me : Me) (c pc : Nat) (ls : Lv) (st : List Value) (s : St) (Q : St → Prop) : Prop := wpc P mi me c pc ls st s fun r s' => r = none ∧ Q s'
abbrev wplI (P : Cl) (Q : Lw) (sc : Sc) (mi : Nat) (me : Me) (pc : Nat) (ls : Lv) (st : List Value) (w : Wd) (R : Int32 → Wd → Prop) : Prop := wpl P Q sc mi me pc ls st w fun r w' => ∃ v, r = some (.int v) ∧ R v w'
abbrev wplL (P : Cl) (Q : Lw) (sc : Sc) (mi : Nat) (me : Me) (pc : Nat) (ls : Lv) (st : List Value) (w : Wd) (R : Int64 → Wd → Prop) : Prop := wpl P Q sc mi me pc ls st w fun r w' => ∃ v, r = some (.long v) ∧ R v w'
abbrev wplV (P : Cl) (Q : Lw) (sc : Sc) (mi : Nat) (me : Me) (pc : Nat) (ls : Lv) (st : List Value) (w : Wd) (R : Wd → Prop) : Prop := wpl P Q sc mi me pc ls st w fun r w' => r = none ∧ R w'
section C
variable {P : Cl} {mi : Nat} {me : Me} {c pc a N n : Nat} {ls : Lv} {r : List Value} {s s' : St} {Q : Option Value → St → Prop} {j : Int32}
theorem wpc_ldaI {v : Int32} (hf : fetch me.cd pc = some (.iaload, n)) (ha : P.al[a]? = some (0, N)) (hac : a < c) (hj : inb N j) (hv : gI s (a + 1) (ix j) = v) (hq : wpc P mi me c (pc + 1) ls (.int v :: r) s Q) : wpc P mi me c pc ls (.int j :: .ref (a + 1) :: r) s Q := by
  subst hv; exact wpc_lda hf (Or.inl ⟨rfl, rfl⟩) ha hac hj hq
theorem wpc_ldaZ {v : Int32} (hf : fetch me.cd pc = some (.baload, n)) (ha : P.al[a]? = some (1, N)) (hac : a < c) (hj : inb N j) (hv : gI s (a + 1) (ix j) = v) (hq : wpc P mi me c (pc + 1) ls (.int v :: r) s Q) : wpc P mi me c pc ls (.int j :: .ref (a + 1) :: r) s Q := by
  subst hv; exact wpc_lda hf (Or.inr (Or.inl ⟨rfl, rfl⟩)) ha hac hj hq
theorem wpc_ldaJ {v : Int64} (hf : fetch me.cd pc = some (.laload, n)) (ha : P.al[a]? = some (2, N)) (hac : a < c) (hj : inb N j) (hv : gL s (a + 1) (ix j) = v) (hq : wpc P mi me c (pc + 1) ls (.long v :: r) s Q) : wpc P mi me c pc ls (.int j :: .ref (a + 1) :: r) s Q := by
  subst hv; exact wpc_lda hf (Or.inr (Or.inr ⟨rfl, rfl⟩)) ha hac hj hq
theorem wpc_staI {z : Int32} (hf : fetch me.cd pc = some (.iastore, n)) (ha : P.al[a]? = some (0, N)) (hac : a < c) (hj : inb N j) (hs : sI s (a + 1) (ix j) z = s') (hq : wpc P mi me c (pc + 1) ls r s' Q) : wpc P mi me c pc ls (.int z :: .int j :: .ref (a + 1) :: r) s Q :=
  wpc_sta hf (Or.inl ⟨rfl, rfl, z, rfl, hs.symm⟩) ha hac hj hq
theorem wpc_staZ {z : Int32} (hf : fetch me.cd pc = some (.bastore, n)) (ha : P.al[a]? = some (1, N)) (hac : a < c) (hj : inb N j) (hs : sI s (a + 1) (ix j) (z &&& 1) = s') (hq : wpc P mi me c (pc + 1) ls r s' Q) : wpc P mi me c pc ls (.int z :: .int j :: .ref (a + 1) :: r) s Q :=
  wpc_sta hf (Or.inr (Or.inl ⟨rfl, rfl, z, rfl, hs.symm⟩)) ha hac hj hq
theorem wpc_staJ {z : Int64} (hf : fetch me.cd pc = some (.lastore, n)) (ha : P.al[a]? = some (2, N)) (hac : a < c) (hj : inb N j) (hs : sL s (a + 1) (ix j) z = s') (hq : wpc P mi me c (pc + 1) ls r s' Q) : wpc P mi me c pc ls (.long z :: .int j :: .ref (a + 1) :: r) s Q :=
  wpc_sta hf (Or.inr (Or.inr ⟨rfl, rfl, z, rfl, hs.symm⟩)) ha hac hj hq
theorem wpc_pl {i : Instr} {pc' : Nat} {ls' : Lv} {st st' : List Value} (hf : fetch me.cd pc = some (i, n)) (hi : ∀ (rt : Option Value → St → Rs) cl (k : Nat → Nat → Lv → List Value → St → Rs), cstep P mi me rt cl k i c pc ls st s = match pstep i pc ls st with | some (pc', ls', st') => k c pc' ls' st' s | none => none) (h : pstep i pc ls st = some (pc', ls', st')) (hq : wpc P mi me c pc' ls' st' s Q) : wpc P mi me c pc ls st s Q :=
  wpc_one hf (fun rt cl k => by rw [hi, h]) hq
theorem wpc_idiv {x y : Int32} (hf : fetch me.cd pc = some (.idiv, n)) (hy : ¬ y = 0) (hq : wpc P mi me c (pc + 1) ls (.int (x / y) :: r) s Q) : wpc P mi me c pc ls (.int y :: .int x :: r) s Q :=
  wpc_pl hf (fun _ _ _ => rfl) (by simp only [pstep, qstep]; rw [if_neg hy]) hq
theorem wpc_irem {x y : Int32} (hf : fetch me.cd pc = some (.irem, n)) (hy : ¬ y = 0) (hq : wpc P mi me c (pc + 1) ls (.int (x % y) :: r) s Q) : wpc P mi me c pc ls (.int y :: .int x :: r) s Q :=
  wpc_pl hf (fun _ _ _ => rfl) (by simp only [pstep, qstep]; rw [if_neg hy]) hq
theorem wpc_ldiv {x y : Int64} (hf : fetch me.cd pc = some (.ldiv, n)) (hy : ¬ y = 0) (hq : wpc P mi me c (pc + 1) ls (.long (x / y) :: r) s Q) : wpc P mi me c pc ls (.long y :: .long x :: r) s Q :=
  wpc_pl hf (fun _ _ _ => rfl) (by simp only [pstep, qstep]; rw [if_neg hy]) hq
end C
/-- the roads of a switch: one a value, from l on -/
def TS (x : Int32) (F : Int → Prop) : List Int → Int → Prop
  | [], _ => True
  | o :: r, l => (x.toInt = l → F o) ∧ TS x F r (l + 1)
theorem TS_at {x : Int32} {F : Int → Prop} : ∀ {os : List Int} {l : Int}, TS x F os l → l ≤ x.toInt → x.toInt < l + os.length → ∃ o, os[(x.toInt - l).toNat]? = some o ∧ F o := by
  intro os
  induction os with
  | nil => intro l _ h1 h2; simp at h2; omega
  | cons o r ih =>
    intro l h h1 h2
    by_cases e : x.toInt = l
    · exact ⟨o, by rw [e]; simp, h.1 e⟩
    · obtain ⟨o', q1, q2⟩ := ih h.2 (by omega) (by simp at h2; omega)
      refine ⟨o', ?_, q2⟩
      have : (x.toInt - l).toNat = (x.toInt - (l + 1)).toNat + 1 := by omega
      rw [this]; simpa using q1
theorem tsw_ok {x : Int32} {F : Int → Prop} {pc : Nat} {ls : Lv} {r : List Value} {d lo hi : Int} {offs : Array Int} (hd : 0 ≤ (pc : Int) + d) (ho : ∀ o ∈ offs.toList, 0 ≤ (pc : Int) + o) (hh : hi + 1 = lo + offs.toList.length)
    (h1 : TS x F offs.toList lo) (h2 : (x.toInt < lo ∨ x.toInt > hi) → F d) : ∃ o, F o ∧ pstep (.tableswitch d lo hi offs) pc ls (.int x :: r) = some (jmp pc o, ls, r) := by
  by_cases hx : x.toInt < lo ∨ x.toInt > hi
  · refine ⟨d, h2 hx, ?_⟩
    simp only [pstep, qstep]; rw [if_pos hx, if_pos hd]
  · obtain ⟨o, q1, q2⟩ := TS_at h1 (by omega) (by omega)
    have q3 : offs[(x.toInt - lo).toNat]? = some o := by rw [← Array.getElem?_toList]; exact q1
    refine ⟨o, q2, ?_⟩
    simp only [pstep, qstep]; rw [if_neg hx, q3]; dsimp only; rw [if_pos (ho o (List.mem_of_getElem? q1))]
theorem wpc_tsw {P : Cl} {mi : Nat} {me : Me} {c pc n : Nat} {ls : Lv} {r : List Value} {s : St} {Q : Option Value → St → Prop} {x : Int32} {d lo hi : Int} {offs : Array Int} (hf : fetch me.cd pc = some (.tableswitch d lo hi offs, n)) (hd : 0 ≤ (pc : Int) + d) (ho : ∀ o ∈ offs.toList, 0 ≤ (pc : Int) + o) (hh : hi + 1 = lo + offs.toList.length)
    (h1 : TS x (fun o => wpc P mi me c (jmp pc o) ls r s Q) offs.toList lo) (h2 : (x.toInt < lo ∨ x.toInt > hi) → wpc P mi me c (jmp pc d) ls r s Q) : wpc P mi me c pc ls (.int x :: r) s Q := by
  obtain ⟨o, q1, q2⟩ := tsw_ok (ls := ls) (r := r) hd ho hh h1 h2
  exact wpc_pl hf (fun _ _ _ => rfl) q2 q1
section L
variable {P : Cl} {Q : Lw} {sc : Sc} {mi : Nat} {me : Me} {pc n : Nat} {ls : Lv} {r : List Value} {w : Wd} {R : Option Value → Wd → Prop}
theorem wpl_pl {i : Instr} {pc' : Nat} {ls' : Lv} {st st' : List Value} (hf : fetch me.cd pc = some (i, n)) (hi : isPl i = true) (h : pstep i pc ls st = some (pc', ls', st')) (hq : wpl P Q sc mi me pc' ls' st' w R) : wpl P Q sc mi me pc ls st w R :=
  wpl_one hf (fun rt cc cl k => by rw [lstep_pl hi, h]) hq
theorem wpl_idiv {x y : Int32} (hf : fetch me.cd pc = some (.idiv, n)) (hy : ¬ y = 0) (hq : wpl P Q sc mi me (pc + 1) ls (.int (x / y) :: r) w R) : wpl P Q sc mi me pc ls (.int y :: .int x :: r) w R :=
  wpl_pl hf rfl (by simp only [pstep, qstep]; rw [if_neg hy]) hq
theorem wpl_irem {x y : Int32} (hf : fetch me.cd pc = some (.irem, n)) (hy : ¬ y = 0) (hq : wpl P Q sc mi me (pc + 1) ls (.int (x % y) :: r) w R) : wpl P Q sc mi me pc ls (.int y :: .int x :: r) w R :=
  wpl_pl hf rfl (by simp only [pstep, qstep]; rw [if_neg hy]) hq
theorem wpl_ldiv {x y : Int64} (hf : fetch me.cd pc = some (.ldiv, n)) (hy : ¬ y = 0) (hq : wpl P Q sc mi me (pc + 1) ls (.long (x / y) :: r) w R) : wpl P Q sc mi me pc ls (.long y :: .long x :: r) w R :=
  wpl_pl hf rfl (by simp only [pstep, qstep]; rw [if_neg hy]) hq
theorem wpl_tsw {x : Int32} {d lo hi : Int} {offs : Array Int} (hf : fetch me.cd pc = some (.tableswitch d lo hi offs, n)) (hd : 0 ≤ (pc : Int) + d) (ho : ∀ o ∈ offs.toList, 0 ≤ (pc : Int) + o) (hh : hi + 1 = lo + offs.toList.length)
    (h1 : TS x (fun o => wpl P Q sc mi me (jmp pc o) ls r w R) offs.toList lo) (h2 : (x.toInt < lo ∨ x.toInt > hi) → wpl P Q sc mi me (jmp pc d) ls r w R) : wpl P Q sc mi me pc ls (.int x :: r) w R := by
  obtain ⟨o, q1, q2⟩ := tsw_ok (ls := ls) (r := r) hd ho hh h1 h2
  exact wpl_pl hf rfl q2 q1
end L
/-! the links, by lists -/
def AllA {α : Type} (Q : Nat → α → Prop) : List (Nat × α) → Prop
  | [] => True
  | (a, b) :: r => Q a b ∧ AllA Q r
theorem asc_all {α : Type} {Q : Nat → α → Prop} {l : List (Nat × α)} (h : AllA Q l) : ∀ k v, asc l k = some v → Q k v := by
  induction l with
  | nil => intro k v e; cases e
  | cons x r ih =>
    intro k v e
    obtain ⟨a, b⟩ := x
    simp only [asc] at e
    cases q : Nat.beq a k
    · rw [q] at e; exact ih h.2 k v e
    · rw [q] at e; cases e
      obtain rfl := Nat.eq_of_beq_eq_true q
      exact h.1
def AllL (Q : Nat → Nat → Prop) : List (Nat × Nat) → Prop
  | [] => True
  | (a, b) :: r => Q a b ∧ AllL Q r
theorem lst_all {Q : Nat → Nat → Prop} {l : List (Nat × Nat)} (h : AllL Q l) : ∀ (j tt N : Nat), l[j]? = some (tt, N) → Q tt N := by
  induction l with
  | nil => intro j tt N e; simp at e
  | cons x r ih =>
    intro j tt N e
    obtain ⟨a, b⟩ := x
    cases j with
    | zero => simp at e; obtain ⟨rfl, rfl⟩ := e; exact h.1
    | succ j => simp at e; exact ih h.2 j tt N e
def dst1 (k : Nat) (fe : Fe) : List (Nat × Fe) → Bool
  | [] => true
  | (k', fe') :: r => (!(fe.1 == fe'.1)) && (decide (fe.2.2.1 < 3) || !(Nat.beq fe.2.2.1 fe'.2.2.1)) && dst1 k fe r
def dst : List (Nat × Fe) → Bool
  | [] => true
  | (k, fe) :: r => dst1 k fe r && dst r
theorem dst1_ok {k : Nat} {fe : Fe} {l : List (Nat × Fe)} (h : dst1 k fe l = true) : ∀ k' fe', asc l k' = some fe' → fe.1 ≠ fe'.1 ∧ (3 ≤ fe.2.2.1 → fe.2.2.1 ≠ fe'.2.2.1) := by
  induction l with
  | nil => intro k' fe' e; cases e
  | cons x r ih =>
    intro k' fe' e
    obtain ⟨a, b⟩ := x
    simp only [dst1, Bool.and_eq_true] at h
    obtain ⟨⟨h1, h2⟩, h3⟩ := h
    simp only [asc] at e
    cases q : Nat.beq a k'
    · rw [q] at e; exact ih h3 k' fe' e
    · rw [q] at e; cases e
      refine ⟨fun q2 => by rw [q2] at h1; simp at h1, fun q2 q3 => ?_⟩
      rw [q3] at h2 q2
      simp only [Bool.or_eq_true, decide_eq_true_eq, Bool.not_eq_true'] at h2
      rcases h2 with h2 | h2
      · omega
      · rw [Nat.beq_refl] at h2; cases h2
theorem dst_ok {l : List (Nat × Fe)} (h : dst l = true) : ∀ (k k' : Nat) (fe fe' : Fe), asc l k = some fe → asc l k' = some fe' → k ≠ k' → fe.1 ≠ fe'.1 ∧ (3 ≤ fe.2.2.1 → fe.2.2.1 ≠ fe'.2.2.1) := by
  induction l with
  | nil => intro k k' fe fe' e; cases e
  | cons x r ih =>
    intro k k' fe fe' e e' hne
    obtain ⟨a, b⟩ := x
    simp only [dst, Bool.and_eq_true] at h
    simp only [asc] at e e'
    cases q : Nat.beq a k <;> cases q' : Nat.beq a k' <;> rw [q] at e <;> rw [q'] at e'
    · exact ih h.2 k k' fe fe' e e' hne
    · cases e'
      obtain ⟨h1, h2⟩ := dst1_ok h.1 k fe e
      exact ⟨Ne.symm h1, fun z1 z2 => h2 (z2 ▸ z1) z2.symm⟩
    · cases e; exact dst1_ok h.1 k' fe' e'
    · exact absurd ((Nat.eq_of_beq_eq_true q).symm.trans (Nat.eq_of_beq_eq_true q')) hne
def chk (bytes : ByteArray) : Cd → Bool
  | [] => true
  | (pc, i, n) :: r => (match decode bytes pc with | .ok (i', n') => decide (i' = i ∧ n' = n) | .error _ => false) && (isSw i || Nat.beq n (ilen i)) && chk bytes r
theorem chk_ok {bytes : ByteArray} {cd : Cd} (h : chk bytes cd = true) : ∀ pc i n, fetch cd pc = some (i, n) → decode bytes pc = .ok (i, n) ∧ (isSw i = true ∨ n = ilen i) := by
  induction cd with
  | nil => intro pc i n e; cases e
  | cons x r ih =>
    intro pc i n e
    obtain ⟨a, i', n'⟩ := x
    simp only [chk, Bool.and_eq_true] at h
    obtain ⟨⟨h1, h2⟩, h3⟩ := h
    simp only [fetch] at e
    cases q : Nat.beq a pc
    · rw [q] at e; exact ih h3 pc i n e
    · rw [q] at e; cases e
      obtain rfl := Nat.eq_of_beq_eq_true q
      refine ⟨?_, ?_⟩
      · split at h1
        · rename_i i2 n2 hd
          obtain ⟨rfl, rfl⟩ := of_decide_eq_true h1
          exact hd
        · cases h1
      · simp only [Bool.or_eq_true] at h2
        exact h2.imp id Nat.eq_of_beq_eq_true
/-- the array that the law is handed -/
theorem script_of {s : State} {args : Array Value} {a : Addr} {cl : Cell} {t : Term} {k : Int32} (hf : Fit s) (A : Arr s s.heap a cl .int) (ev : t.eval args s none [] s = some (.ref a)) (hl : (Cond.le (Term.length t) (Term.int k)).value args s none s [] = some true) :
    (cl.slots.size < 2 ^ 31 ∧ (cl.slots.size : Int) ≤ k.toInt) ∧ SRep s s.heap a s.heap.size (some (cl.slots.size, fun i => match cl.slots[i]? with | some (.int x) => x | _ => 0)) := by
  obtain ⟨x, y, h1, h2, -⟩ := cmp_v (Or.inr (Or.inr hl))
  have hz : cl.slots.size < 2 ^ 31 := by
    have q : (Term.length t).eval args s none [] s = if cl.slots.size < 2 ^ 31 then some (.int cl.slots.size.toInt32) else none := by simp [Term.eval, ev, A.fin (Vm.Alike.refl _)]
    rw [h1] at q
    split at q
    · assumption
    · cases q
  have h1' := len_f ev (A.fin (Vm.Alike.refl _)) hz (args := args) (first := s) (o := none) (idx := [])
  have hle := gotT (Cond.le_ints h1' (Term.int_eval k)) hl
  rw [Int32.le_iff_toInt_le, len_toInt hz] at hle
  refine ⟨⟨hz, hle⟩, A.lt, cl, A, rfl, fun i hi => ?_⟩
  have e1 : cl.slots[i]? = some cl.slots[i] := Array.getElem?_eq_getElem hi
  have q := elem_fit hf A (j := i.toInt32) (idx_in hi hz)
  have e2 : i.toInt32.toNatClampNeg = i := by
    have := len_toInt (n := i) (by omega)
    simp only [Int32.toNatClampNeg, this]; rfl
  rw [e2] at q
  obtain ⟨v, hv, hfv⟩ := q
  obtain ⟨x, rfl⟩ := fit_I hfv (Or.inl rfl)
  rw [hv]
  dsimp only
  rw [hv]
end Jvm.LM
namespace Jvm.LM
theorem law_run {P : Cl} {Q : Lw} {sc : Sc} {as : List Value} (h : lalI P Q sc 0 as W0 fun v _ => v = 1) {me : Me} (hme : asc Q.ms 0 = some me) : ∃ f w', lexec P Q sc f 0 me 0 (lay as me.ml) [] W0 = some (some (.int 1), w') := by
  obtain ⟨f, v, w', h1, v', rfl, rfl⟩ := h
  refine ⟨f, w', ?_⟩
  simp only [lcall, hme] at h1
  split at h1
  · exact h1
  · cases h1
end Jvm.LM

namespace Jvm.LM
open Jvm.RoadKit
/-! numbers -/
theorem i32_add {x y : Int32} (h1 : -2147483648 ≤ x.toInt + y.toInt) (h2 : x.toInt + y.toInt < 2147483648) : (x + y).toInt = x.toInt + y.toInt := by
  have := c_iadd x y; have := rng32 (x + y); omega
theorem i32_sub {x y : Int32} (h1 : -2147483648 ≤ x.toInt - y.toInt) (h2 : x.toInt - y.toInt < 2147483648) : (x - y).toInt = x.toInt - y.toInt := by
  have := c_isub x y; have := rng32 (x - y); omega
theorem i32_mul {x y : Int32} (h1 : -2147483648 ≤ x.toInt * y.toInt) (h2 : x.toInt * y.toInt < 2147483648) : (x * y).toInt = x.toInt * y.toInt := by
  have := c_imul x y; have := rng32 (x * y); omega
theorem ix_int {i : Int32} (h : 0 ≤ i.toInt) : (ix i : Int) = i.toInt := by simp only [ix, Int32.toNatClampNeg]; omega
theorem ix_inj {i j : Int32} (hi : 0 ≤ i.toInt) (hj : 0 ≤ j.toInt) : ix i = ix j ↔ i = j := by
  have a := ix_int hi; have b := ix_int hj
  rw [← Int32.toInt_inj]; omega
theorem i32_lt {x y : Int32} : x < y ↔ x.toInt < y.toInt := Int32.lt_iff_toInt_lt
theorem i32_eq {x y : Int32} : x = y ↔ x.toInt = y.toInt := Int32.toInt_inj.symm
/-- a loop that counts up to N: from the next turn to this one -/
theorem loop_up {F : Int32 → Prop} (N : Int) (hN : N < 2147483647) (step : ∀ i, 0 ≤ i.toInt → i.toInt < N → (i + 1).toInt = i.toInt + 1 → F (i + 1) → F i) (last : ∀ i, i.toInt = N → F i) : ∀ i, 0 ≤ i.toInt → i.toInt ≤ N → F i := by
  have key : ∀ n : Nat, ∀ i : Int32, 0 ≤ i.toInt → i.toInt + n = N → F i := by
    intro n
    induction n with
    | zero => intro i h0 h1; exact last i (by omega)
    | succ n ih =>
      intro i h0 h1
      have e : (i + 1).toInt = i.toInt + 1 := i32_add (by simp; omega) (by simp; omega)
      exact step i h0 (by omega) e (ih (i + 1) (by omega) (by omega))
  intro i h0 h1
  exact key (N - i.toInt).toNat i h0 (by omega)
theorem cmpL_lt {x y : Int64} : Jvm.Free.XT.cmpL x y < 0 ↔ x < y := by
  unfold Jvm.Free.XT.cmpL; split
  · rename_i h; exact ⟨fun q => absurd q (by decide), fun q => by rw [Int64.lt_iff_toInt_lt] at h q; omega⟩
  · split
    · rename_i h; subst h; exact ⟨fun q => absurd q (by decide), fun q => by rw [Int64.lt_iff_toInt_lt] at q; omega⟩
    · rename_i h1 h2
      refine ⟨fun _ => ?_, fun _ => by decide⟩
      rw [Int64.lt_iff_toInt_lt] at h1 ⊢; rw [← Int64.toInt_inj] at h2; omega
theorem cmpL_gt {x y : Int64} : 0 < Jvm.Free.XT.cmpL x y ↔ y < x := by
  unfold Jvm.Free.XT.cmpL; split
  · rename_i h; exact ⟨fun _ => h, fun _ => by decide⟩
  · rename_i h; split
    · exact ⟨fun q => absurd q (by decide), fun q => absurd q h⟩
    · exact ⟨fun q => absurd q (by decide), fun q => absurd q h⟩
theorem cmpL_eq {x y : Int64} : Jvm.Free.XT.cmpL x y = 0 ↔ x = y := by
  unfold Jvm.Free.XT.cmpL; split
  · rename_i h; exact ⟨fun q => absurd q (by decide), fun q => by subst q; rw [Int64.lt_iff_toInt_lt] at h; omega⟩
  · split
    · rename_i h; exact ⟨fun _ => h, fun _ => rfl⟩
    · rename_i h1 h2; exact ⟨fun q => absurd q (by decide), fun q => absurd q h2⟩
end Jvm.LM

namespace Jvm.Pilot.@@N@@
open Jvm Jvm.ClassFile Sem Op Lib Jvm.Free Jvm.Stand Jvm.LawKit Jvm.RoadKit Jvm.LM Bundle Jvm.Pilot.@@N@@.Jvm.D
def cm0 : Me := ("<init>", "(II)V", 2, 0, [(0, .aload_n 0, 1), (1, .invokespecial 1, 3), (4, .aload_n 0, 1), (5, .bipush 7, 2), (7, .newarray .int, 2), (9, .putfield 7, 3), (12, .aload_n 0, 1), (13, .bipush 7, 2), (15, .newarray .int, 2), (17, .putfield 13, 3), (20, .aload_n 0, 1), (21, .bipush 7, 2), (23, .newarray .int, 2), (25, .putfield 16, 3), (28, .aload_n 0, 1), (29, .bipush 7, 2), (31, .newarray .int, 2), (33, .putfield 19, 3), (36, .aload_n 0, 1), (37, .bipush 7, 2), (39, .newarray .int, 2), (41, .putfield 22, 3), (44, .aload_n 0, 1), (45, .bipush 7, 2), (47, .newarray .int, 2), (49, .putfield 25, 3), (52, .aload_n 0, 1), (53, .bipush 7, 2), (55, .newarray .int, 2), (57, .putfield 28, 3), (60, .aload_n 0, 1), (61, .bipush 7, 2), (63, .newarray .long, 2), (65, .putfield 31, 3), (68, .aload_n 0, 1), (69, .bipush 7, 2), (71, .newarray .int, 2), (73, .putfield 35, 3), (76, .aload_n 0, 1), (77, .bipush 112, 2), (79, .newarray .int, 2), (81, .putfield 38, 3), (84, .aload_n 0, 1), (85, .sipush 784, 3), (88, .newarray .int, 2), (90, .putfield 41, 3), (93, .aload_n 0, 1), (94, .aload_n 0, 1), (95, .iload_n 1, 1), (96, .iconst 0, 1), (97, .iconst 3, 1), (98, .invokevirtual 44, 3), (101, .putfield 48, 3), (104, .aload_n 0, 1), (105, .aload_n 0, 1), (106, .iload_n 2, 1), (107, .iconst 1, 1), (108, .bipush 8, 2), (110, .invokevirtual 44, 3), (113, .putfield 52, 3), (116, .aload_n 0, 1), (117, .bipush 7, 2), (119, .aload_n 0, 1), (120, .getfield 48, 3), (123, .isub, 1), (124, .putfield 55, 3), (127, .aload_n 0, 1), (128, .iconst 0, 1), (129, .putfield 58, 3), (132, .aload_n 0, 1), (133, .invokevirtual 61, 3), (136, .aload_n 0, 1), (137, .invokevirtual 64, 3), (140, .return_, 1)], 3, 3, 39)
def cm2 : Me := ("setInput", "(IIII)Z", 4, 2, [(0, .aload_n 0, 1), (1, .iload_n 1, 1), (2, .invokevirtual 67, 3), (5, .ifCond .ne 5, 3), (8, .iconst 0, 1), (9, .ireturn, 1), (10, .aload_n 0, 1), (11, .iload_n 2, 1), (12, .invokevirtual 71, 3), (15, .ifCond .ne 5, 3), (18, .iconst 0, 1), (19, .ireturn, 1), (20, .aload_n 0, 1), (21, .getfield 7, 3), (24, .iload_n 1, 1), (25, .iaload, 1), (26, .ifCond .eq 5, 3), (29, .iconst 0, 1), (30, .ireturn, 1), (31, .aload_n 0, 1), (32, .getfield 13, 3), (35, .iload_n 1, 1), (36, .iload_n 2, 1), (37, .iastore, 1), (38, .aload_n 0, 1), (39, .getfield 16, 3), (42, .iload_n 1, 1), (43, .iload_n 2, 1), (44, .iastore, 1), (45, .aload_n 0, 1), (46, .getfield 31, 3), (49, .iload_n 1, 1), (50, .aload_n 0, 1), (51, .iload_n 3, 1), (52, .iload 4, 2), (54, .invokevirtual 74, 3), (57, .lastore, 1), (58, .aload_n 0, 1), (59, .getfield 7, 3), (62, .iload_n 1, 1), (63, .iconst 1, 1), (64, .iastore, 1), (65, .aload_n 0, 1), (66, .getfield 19, 3), (69, .iload_n 1, 1), (70, .iconst 1, 1), (71, .iastore, 1), (72, .aload_n 0, 1), (73, .getfield 22, 3), (76, .iload_n 1, 1), (77, .iconst 0, 1), (78, .iastore, 1), (79, .aload_n 0, 1), (80, .iload_n 1, 1), (81, .iconst 1, 1), (82, .iconst 0, 1), (83, .iload_n 2, 1), (84, .invokevirtual 78, 3), (87, .aload_n 0, 1), (88, .iload_n 1, 1), (89, .invokevirtual 82, 3), (92, .iconst 1, 1), (93, .ireturn, 1)], 5, 8, 127)
def cm3 : Me := ("deliver", "(IIII)I", 4, 1, [(0, .aload_n 0, 1), (1, .iload_n 3, 1), (2, .invokevirtual 86, 3), (5, .ifCond .ne 5, 3), (8, .iconst 0, 1), (9, .ireturn, 1), (10, .aload_n 0, 1), (11, .iload 4, 2), (13, .invokevirtual 89, 3), (16, .ifCond .ne 5, 3), (19, .iconst 0, 1), (20, .ireturn, 1), (21, .iconst 0, 1), (22, .istore 5, 2), (24, .iconst 0, 1), (25, .istore 6, 2), (27, .iload 6, 2), (29, .bipush 7, 2), (31, .if_icmp .ge 34, 3), (34, .aload_n 0, 1), (35, .iload_n 2, 1), (36, .iload 6, 2), (38, .invokevirtual 92, 3), (41, .ifCond .eq 18, 3), (44, .iload 5, 2), (46, .aload_n 0, 1), (47, .iload_n 1, 1), (48, .iload 6, 2), (50, .iload_n 3, 1), (51, .iload 4, 2), (53, .invokevirtual 96, 3), (56, .iadd, 1), (57, .istore 5, 2), (59, .iinc 6 1, 3), (62, .goto (-35), 3), (65, .iload 5, 2), (67, .ireturn, 1)], 7, 10, 162)
def cm4 : Me := ("crash", "(II)Z", 2, 2, [(0, .aload_n 0, 1), (1, .iload_n 1, 1), (2, .invokevirtual 67, 3), (5, .ifCond .ne 5, 3), (8, .iconst 0, 1), (9, .ireturn, 1), (10, .aload_n 0, 1), (11, .getfield 7, 3), (14, .iload_n 1, 1), (15, .iaload, 1), (16, .iconst 3, 1), (17, .if_icmp .ne 5, 3), (20, .iconst 0, 1), (21, .ireturn, 1), (22, .aload_n 0, 1), (23, .getfield 58, 3), (26, .aload_n 0, 1), (27, .getfield 48, 3), (30, .if_icmp .lt 5, 3), (33, .iconst 0, 1), (34, .ireturn, 1), (35, .aload_n 0, 1), (36, .getfield 7, 3), (39, .iload_n 1, 1), (40, .iconst 3, 1), (41, .iastore, 1), (42, .aload_n 0, 1), (43, .dup, 1), (44, .getfield 58, 3), (47, .iconst 1, 1), (48, .iadd, 1), (49, .putfield 58, 3), (52, .iconst 0, 1), (53, .istore_n 3, 1), (54, .iload_n 3, 1), (55, .bipush 7, 2), (57, .if_icmp .ge 24, 3), (60, .aload_n 0, 1), (61, .iload_n 2, 1), (62, .iload_n 3, 1), (63, .invokevirtual 92, 3), (66, .ifCond .ne 9, 3), (69, .aload_n 0, 1), (70, .iload_n 1, 1), (71, .iload_n 3, 1), (72, .invokevirtual 100, 3), (75, .iinc 3 1, 3), (78, .goto (-24), 3), (81, .iconst 1, 1), (82, .ireturn, 1)], 4, 4, 62)
def cm9 : Me := ("inputOf", "(I)I", 1, 1, [(0, .aload_n 0, 1), (1, .iload_n 1, 1), (2, .invokevirtual 67, 3), (5, .ifCond .ne 5, 3), (8, .iconst (-1), 1), (9, .ireturn, 1), (10, .aload_n 0, 1), (11, .iload_n 1, 1), (12, .invokevirtual 104, 3), (15, .ifCond .ne 5, 3), (18, .iconst (-1), 1), (19, .ireturn, 1), (20, .aload_n 0, 1), (21, .getfield 13, 3), (24, .iload_n 1, 1), (25, .iaload, 1), (26, .ireturn, 1)], 2, 1, 13)
def cm10 : Me := ("decision", "(I)I", 1, 1, [(0, .aload_n 0, 1), (1, .iload_n 1, 1), (2, .invokevirtual 67, 3), (5, .ifCond .ne 5, 3), (8, .iconst (-1), 1), (9, .ireturn, 1), (10, .aload_n 0, 1), (11, .getfield 25, 3), (14, .iload_n 1, 1), (15, .iaload, 1), (16, .ireturn, 1)], 2, 1, 13)
def cm11 : Me := ("decisionRound", "(I)I", 1, 1, [(0, .aload_n 0, 1), (1, .iload_n 1, 1), (2, .invokevirtual 67, 3), (5, .ifCond .ne 5, 3), (8, .iconst (-1), 1), (9, .ireturn, 1), (10, .aload_n 0, 1), (11, .getfield 28, 3), (14, .iload_n 1, 1), (15, .iaload, 1), (16, .ireturn, 1)], 2, 1, 13)
def cm17 : Me := ("resetAllProcesses", "()V", 0, 0, [(0, .iconst 0, 1), (1, .istore_n 1, 1), (2, .iload_n 1, 1), (3, .bipush 7, 2), (5, .if_icmp .ge 14, 3), (8, .aload_n 0, 1), (9, .iload_n 1, 1), (10, .invokevirtual 113, 3), (13, .iinc 1 1, 3), (16, .goto (-14), 3), (19, .return_, 1)], 2, 2, 26)
def cm18 : Me := ("resetProcess", "(I)V", 1, 0, [(0, .aload_n 0, 1), (1, .iload_n 1, 1), (2, .invokevirtual 67, 3), (5, .ifCond .ne 4, 3), (8, .return_, 1), (9, .aload_n 0, 1), (10, .getfield 7, 3), (13, .iload_n 1, 1), (14, .iconst 0, 1), (15, .iastore, 1), (16, .aload_n 0, 1), (17, .getfield 13, 3), (20, .iload_n 1, 1), (21, .iconst (-1), 1), (22, .iastore, 1), (23, .aload_n 0, 1), (24, .getfield 16, 3), (27, .iload_n 1, 1), (28, .iconst (-1), 1), (29, .iastore, 1), (30, .aload_n 0, 1), (31, .getfield 19, 3), (34, .iload_n 1, 1), (35, .iconst 0, 1), (36, .iastore, 1), (37, .aload_n 0, 1), (38, .getfield 22, 3), (41, .iload_n 1, 1), (42, .iconst 0, 1), (43, .iastore, 1), (44, .aload_n 0, 1), (45, .getfield 25, 3), (48, .iload_n 1, 1), (49, .iconst (-1), 1), (50, .iastore, 1), (51, .aload_n 0, 1), (52, .getfield 28, 3), (55, .iload_n 1, 1), (56, .iconst 0, 1), (57, .iastore, 1), (58, .aload_n 0, 1), (59, .getfield 31, 3), (62, .iload_n 1, 1), (63, .lconst 0, 1), (64, .lastore, 1), (65, .aload_n 0, 1), (66, .getfield 35, 3), (69, .iload_n 1, 1), (70, .iconst 0, 1), (71, .iastore, 1), (72, .return_, 1)], 2, 1, 13)
def cm19 : Me := ("resetAllMessages", "()V", 0, 0, [(0, .iconst 0, 1), (1, .istore_n 1, 1), (2, .iload_n 1, 1), (3, .bipush 112, 2), (5, .if_icmp .ge 16, 3), (8, .aload_n 0, 1), (9, .getfield 38, 3), (12, .iload_n 1, 1), (13, .iconst (-1), 1), (14, .iastore, 1), (15, .iinc 1 1, 3), (18, .goto (-16), 3), (21, .iconst 0, 1), (22, .istore_n 1, 1), (23, .iload_n 1, 1), (24, .sipush 784, 3), (27, .if_icmp .ge 16, 3), (30, .aload_n 0, 1), (31, .getfield 41, 3), (34, .iload_n 1, 1), (35, .iconst 0, 1), (36, .iastore, 1), (37, .iinc 1 1, 3), (40, .goto (-17), 3), (43, .return_, 1)], 2, 0, 0)
def cm20 : Me := ("clamp", "(III)I", 3, 1, [(0, .iload_n 1, 1), (1, .iload_n 2, 1), (2, .if_icmp .ge 5, 3), (5, .iload_n 2, 1), (6, .ireturn, 1), (7, .iload_n 1, 1), (8, .iload_n 3, 1), (9, .if_icmp .le 5, 3), (12, .iload_n 3, 1), (13, .ireturn, 1), (14, .iload_n 1, 1), (15, .ireturn, 1)], 4, 0, 0)
def cm21 : Me := ("validProcess", "(I)Z", 1, 2, [(0, .iload_n 1, 1), (1, .ifCond .lt 13, 3), (4, .iload_n 1, 1), (5, .bipush 7, 2), (7, .if_icmp .ge 7, 3), (10, .iconst 1, 1), (11, .goto 4, 3), (14, .iconst 0, 1), (15, .ireturn, 1)], 2, 0, 0)
def cm22 : Me := ("validRound", "(I)Z", 1, 2, [(0, .iload_n 1, 1), (1, .iconst 1, 1), (2, .if_icmp .lt 15, 3), (5, .iload_n 1, 1), (6, .aload_n 0, 1), (7, .getfield 52, 3), (10, .if_icmp .gt 7, 3), (13, .iconst 1, 1), (14, .goto 4, 3), (17, .iconst 0, 1), (18, .ireturn, 1)], 2, 0, 0)
def cm23 : Me := ("validPhase", "(I)Z", 1, 2, [(0, .iload_n 1, 1), (1, .ifCond .eq 8, 3), (4, .iload_n 1, 1), (5, .iconst 1, 1), (6, .if_icmp .ne 7, 3), (9, .iconst 1, 1), (10, .goto 4, 3), (13, .iconst 0, 1), (14, .ireturn, 1)], 2, 0, 0)
def cm24 : Me := ("validInputValue", "(I)Z", 1, 2, [(0, .iload_n 1, 1), (1, .ifCond .eq 8, 3), (4, .iload_n 1, 1), (5, .iconst 1, 1), (6, .if_icmp .ne 7, 3), (9, .iconst 1, 1), (10, .goto 4, 3), (13, .iconst 0, 1), (14, .ireturn, 1)], 2, 0, 0)
def cm25 : Me := ("validMessageValue", "(I)Z", 1, 2, [(0, .iload_n 1, 1), (1, .ifCond .eq 13, 3), (4, .iload_n 1, 1), (5, .iconst 1, 1), (6, .if_icmp .eq 8, 3), (9, .iload_n 1, 1), (10, .iconst 2, 1), (11, .if_icmp .ne 7, 3), (14, .iconst 1, 1), (15, .goto 4, 3), (18, .iconst 0, 1), (19, .ireturn, 1)], 2, 0, 0)
def cm26 : Me := ("bitSet", "(II)Z", 2, 2, [(0, .iload_n 1, 1), (1, .iload_n 2, 1), (2, .iushr, 1), (3, .iconst 1, 1), (4, .iand, 1), (5, .iconst 1, 1), (6, .if_icmp .ne 7, 3), (9, .iconst 1, 1), (10, .goto 4, 3), (13, .iconst 0, 1), (14, .ireturn, 1)], 3, 0, 0)
def cm27 : Me := ("hasInput", "(I)Z", 1, 2, [(0, .aload_n 0, 1), (1, .getfield 13, 3), (4, .iload_n 1, 1), (5, .iaload, 1), (6, .iconst (-1), 1), (7, .if_icmp .eq 7, 3), (10, .iconst 1, 1), (11, .goto 4, 3), (14, .iconst 0, 1), (15, .ireturn, 1)], 2, 0, 0)
def cm28 : Me := ("composeSeed", "(II)J", 2, 3, [(0, .iload_n 1, 1), (1, .i2l, 1), (2, .bipush 32, 2), (4, .lshl, 1), (5, .lstore_n 3, 1), (6, .iload_n 2, 1), (7, .i2l, 1), (8, .ldc2_w 116, 3), (11, .land, 1), (12, .lstore 5, 2), (14, .lload_n 3, 1), (15, .lload 5, 2), (17, .lor, 1), (18, .lreturn, 1)], 7, 0, 0)
def cm29 : Me := ("sentIndex", "(III)I", 3, 1, [(0, .iload_n 1, 1), (1, .bipush 8, 2), (3, .imul, 1), (4, .iload_n 2, 1), (5, .iconst 1, 1), (6, .isub, 1), (7, .iadd, 1), (8, .iconst 2, 1), (9, .imul, 1), (10, .iload_n 3, 1), (11, .iadd, 1), (12, .ireturn, 1)], 4, 0, 0)
def cm30 : Me := ("copyIndex", "(IIII)I", 4, 1, [(0, .iload_n 1, 1), (1, .bipush 7, 2), (3, .imul, 1), (4, .iload_n 2, 1), (5, .iadd, 1), (6, .bipush 8, 2), (8, .imul, 1), (9, .iload_n 3, 1), (10, .iconst 1, 1), (11, .isub, 1), (12, .iadd, 1), (13, .iconst 2, 1), (14, .imul, 1), (15, .iload 4, 2), (17, .iadd, 1), (18, .ireturn, 1)], 5, 0, 0)
def cm31 : Me := ("validSlot", "(IIII)Z", 4, 2, [(0, .aload_n 0, 1), (1, .iload_n 1, 1), (2, .invokevirtual 67, 3), (5, .ifCond .ne 5, 3), (8, .iconst 0, 1), (9, .ireturn, 1), (10, .aload_n 0, 1), (11, .iload_n 2, 1), (12, .invokevirtual 67, 3), (15, .ifCond .ne 5, 3), (18, .iconst 0, 1), (19, .ireturn, 1), (20, .aload_n 0, 1), (21, .iload_n 3, 1), (22, .invokevirtual 86, 3), (25, .ifCond .ne 5, 3), (28, .iconst 0, 1), (29, .ireturn, 1), (30, .aload_n 0, 1), (31, .iload 4, 2), (33, .invokevirtual 89, 3), (36, .ireturn, 1)], 5, 1, 13)
def cm32 : Me := ("readSent", "(III)I", 3, 1, [(0, .aload_n 0, 1), (1, .iload_n 1, 1), (2, .iconst 0, 1), (3, .iload_n 2, 1), (4, .iload_n 3, 1), (5, .invokevirtual 118, 3), (8, .ifCond .ne 5, 3), (11, .iconst (-1), 1), (12, .ireturn, 1), (13, .aload_n 0, 1), (14, .getfield 38, 3), (17, .aload_n 0, 1), (18, .iload_n 1, 1), (19, .iload_n 2, 1), (20, .iload_n 3, 1), (21, .invokevirtual 122, 3), (24, .iaload, 1), (25, .ireturn, 1)], 4, 2, 29)
def cm33 : Me := ("writeSent", "(IIII)V", 4, 0, [(0, .aload_n 0, 1), (1, .iload_n 1, 1), (2, .iconst 0, 1), (3, .iload_n 2, 1), (4, .iload_n 3, 1), (5, .invokevirtual 118, 3), (8, .ifCond .ne 4, 3), (11, .return_, 1), (12, .aload_n 0, 1), (13, .getfield 38, 3), (16, .aload_n 0, 1), (17, .iload_n 1, 1), (18, .iload_n 2, 1), (19, .iload_n 3, 1), (20, .invokevirtual 122, 3), (23, .iload 4, 2), (25, .iastore, 1), (26, .return_, 1)], 5, 2, 29)
def cm34 : Me := ("readCopy", "(IIII)I", 4, 1, [(0, .aload_n 0, 1), (1, .iload_n 1, 1), (2, .iload_n 2, 1), (3, .iload_n 3, 1), (4, .iload 4, 2), (6, .invokevirtual 118, 3), (9, .ifCond .ne 5, 3), (12, .iconst (-1), 1), (13, .ireturn, 1), (14, .aload_n 0, 1), (15, .getfield 41, 3), (18, .aload_n 0, 1), (19, .iload_n 1, 1), (20, .iload_n 2, 1), (21, .iload_n 3, 1), (22, .iload 4, 2), (24, .invokevirtual 125, 3), (27, .iaload, 1), (28, .ireturn, 1)], 5, 2, 29)
def cm35 : Me := ("writeCopy", "(IIIII)V", 5, 0, [(0, .aload_n 0, 1), (1, .iload_n 1, 1), (2, .iload_n 2, 1), (3, .iload_n 3, 1), (4, .iload 4, 2), (6, .invokevirtual 118, 3), (9, .ifCond .ne 4, 3), (12, .return_, 1), (13, .aload_n 0, 1), (14, .getfield 41, 3), (17, .aload_n 0, 1), (18, .iload_n 1, 1), (19, .iload_n 2, 1), (20, .iload_n 3, 1), (21, .iload 4, 2), (23, .invokevirtual 125, 3), (26, .iload 5, 2), (28, .iastore, 1), (29, .return_, 1)], 6, 2, 29)
def cm36 : Me := ("broadcast", "(IIII)V", 4, 0, [(0, .aload_n 0, 1), (1, .iload 4, 2), (3, .invokevirtual 128, 3), (6, .ifCond .ne 4, 3), (9, .return_, 1), (10, .aload_n 0, 1), (11, .iload_n 1, 1), (12, .iload_n 2, 1), (13, .iload_n 3, 1), (14, .iload 4, 2), (16, .invokevirtual 131, 3), (19, .iconst 0, 1), (20, .istore 5, 2), (22, .iload 5, 2), (24, .bipush 7, 2), (26, .if_icmp .ge 19, 3), (29, .aload_n 0, 1), (30, .iload_n 1, 1), (31, .iload 5, 2), (33, .iload_n 2, 1), (34, .iload_n 3, 1), (35, .iconst 1, 1), (36, .invokevirtual 134, 3), (39, .iinc 5 1, 3), (42, .goto (-20), 3), (45, .return_, 1)], 6, 3, 46)
def cm37 : Me := ("loseCopies", "(II)V", 2, 0, [(0, .iconst 1, 1), (1, .istore_n 3, 1), (2, .iload_n 3, 1), (3, .bipush 8, 2), (5, .if_icmp .gt 47, 3), (8, .iconst 0, 1), (9, .istore 4, 2), (11, .iload 4, 2), (13, .iconst 2, 1), (14, .if_icmp .ge 32, 3), (17, .aload_n 0, 1), (18, .iload_n 1, 1), (19, .iload_n 2, 1), (20, .iload_n 3, 1), (21, .iload 4, 2), (23, .invokevirtual 110, 3), (26, .iconst 1, 1), (27, .if_icmp .ne 13, 3), (30, .aload_n 0, 1), (31, .iload_n 1, 1), (32, .iload_n 2, 1), (33, .iload_n 3, 1), (34, .iload 4, 2), (36, .iconst 3, 1), (37, .invokevirtual 134, 3), (40, .iinc 4 1, 3), (43, .goto (-32), 3), (46, .iinc 3 1, 3), (49, .goto (-47), 3), (52, .return_, 1)], 5, 3, 46)
def cm38 : Me := ("deliverToReceiver", "(IIII)I", 4, 1, [(0, .iconst 0, 1), (1, .istore 5, 2), (3, .iconst 0, 1), (4, .istore 6, 2), (6, .iload 6, 2), (8, .bipush 7, 2), (10, .if_icmp .ge 35, 3), (13, .aload_n 0, 1), (14, .iload_n 1, 1), (15, .iload 6, 2), (17, .invokevirtual 92, 3), (20, .ifCond .eq 19, 3), (23, .aload_n 0, 1), (24, .iload 6, 2), (26, .iload_n 2, 1), (27, .iload_n 3, 1), (28, .iload 4, 2), (30, .invokevirtual 138, 3), (33, .ifCond .eq 6, 3), (36, .iinc 5 1, 3), (39, .iinc 6 1, 3), (42, .goto (-36), 3), (45, .iload 5, 2), (47, .ireturn, 1)], 7, 9, 143)
def cm39 : Me := ("deliverPair", "(IIII)Z", 4, 2, [(0, .aload_n 0, 1), (1, .getfield 7, 3), (4, .iload_n 2, 1), (5, .iaload, 1), (6, .iconst 3, 1), (7, .if_icmp .ne 5, 3), (10, .iconst 0, 1), (11, .ireturn, 1), (12, .aload_n 0, 1), (13, .iload_n 1, 1), (14, .iload_n 2, 1), (15, .iload_n 3, 1), (16, .iload 4, 2), (18, .invokevirtual 110, 3), (21, .iconst 1, 1), (22, .if_icmp .eq 5, 3), (25, .iconst 0, 1), (26, .ireturn, 1), (27, .aload_n 0, 1), (28, .iload_n 1, 1), (29, .iload_n 2, 1), (30, .iload_n 3, 1), (31, .iload 4, 2), (33, .iconst 2, 1), (34, .invokevirtual 134, 3), (37, .aload_n 0, 1), (38, .iload_n 2, 1), (39, .invokevirtual 82, 3), (42, .iconst 1, 1), (43, .ireturn, 1)], 5, 8, 127)
def cm40 : Me := ("heldCount", "(III)I", 3, 1, [(0, .iconst 0, 1), (1, .istore 4, 2), (3, .iconst 0, 1), (4, .istore 5, 2), (6, .iload 5, 2), (8, .bipush 7, 2), (10, .if_icmp .ge 25, 3), (13, .aload_n 0, 1), (14, .iload 5, 2), (16, .iload_n 1, 1), (17, .iload_n 2, 1), (18, .iload_n 3, 1), (19, .invokevirtual 110, 3), (22, .iconst 2, 1), (23, .if_icmp .ne 6, 3), (26, .iinc 4 1, 3), (29, .iinc 5 1, 3), (32, .goto (-26), 3), (35, .iload 4, 2), (37, .ireturn, 1)], 6, 3, 45)
def cm41 : Me := ("heldValueCount", "(IIII)I", 4, 1, [(0, .iconst 0, 1), (1, .istore 5, 2), (3, .iconst 0, 1), (4, .istore 6, 2), (6, .iload 6, 2), (8, .bipush 7, 2), (10, .if_icmp .ge 38, 3), (13, .aload_n 0, 1), (14, .iload 6, 2), (16, .iload_n 1, 1), (17, .iload_n 2, 1), (18, .iload_n 3, 1), (19, .invokevirtual 110, 3), (22, .iconst 2, 1), (23, .if_icmp .ne 19, 3), (26, .aload_n 0, 1), (27, .iload 6, 2), (29, .iload_n 2, 1), (30, .iload_n 3, 1), (31, .invokevirtual 107, 3), (34, .iload 4, 2), (36, .if_icmp .ne 6, 3), (39, .iinc 5 1, 3), (42, .iinc 6 1, 3), (45, .goto (-39), 3), (48, .iload 5, 2), (50, .ireturn, 1)], 7, 3, 45)
def cm42 : Me := ("step", "(I)V", 1, 0, [(0, .aload_n 0, 1), (1, .iload_n 1, 1), (2, .invokevirtual 67, 3), (5, .ifCond .ne 4, 3), (8, .return_, 1), (9, .iconst 2, 1), (10, .aload_n 0, 1), (11, .getfield 52, 3), (14, .imul, 1), (15, .iconst 2, 1), (16, .iadd, 1), (17, .istore_n 2, 1), (18, .iconst 0, 1), (19, .istore_n 3, 1), (20, .iload_n 3, 1), (21, .iload_n 2, 1), (22, .if_icmp .ge 18, 3), (25, .aload_n 0, 1), (26, .iload_n 1, 1), (27, .invokevirtual 141, 3), (30, .ifCond .ne 4, 3), (33, .return_, 1), (34, .iinc 3 1, 3), (37, .goto (-17), 3), (40, .return_, 1)], 4, 7, 112)
def cm43 : Me := ("stepOnce", "(I)Z", 1, 2, [(0, .aload_n 0, 1), (1, .getfield 7, 3), (4, .iload_n 1, 1), (5, .iaload, 1), (6, .iconst 1, 1), (7, .if_icmp .eq 5, 3), (10, .iconst 0, 1), (11, .ireturn, 1), (12, .aload_n 0, 1), (13, .getfield 19, 3), (16, .iload_n 1, 1), (17, .iaload, 1), (18, .istore_n 2, 1), (19, .aload_n 0, 1), (20, .getfield 22, 3), (23, .iload_n 1, 1), (24, .iaload, 1), (25, .istore_n 3, 1), (26, .aload_n 0, 1), (27, .iload_n 2, 1), (28, .invokevirtual 86, 3), (31, .ifCond .eq 11, 3), (34, .aload_n 0, 1), (35, .iload_n 3, 1), (36, .invokevirtual 89, 3), (39, .ifCond .ne 5, 3), (42, .iconst 0, 1), (43, .ireturn, 1), (44, .aload_n 0, 1), (45, .iload_n 1, 1), (46, .iload_n 2, 1), (47, .iload_n 3, 1), (48, .invokevirtual 144, 3), (51, .aload_n 0, 1), (52, .getfield 55, 3), (55, .if_icmp .ge 5, 3), (58, .iconst 0, 1), (59, .ireturn, 1), (60, .aload_n 0, 1), (61, .iload_n 1, 1), (62, .iload_n 2, 1), (63, .iload_n 3, 1), (64, .iconst 0, 1), (65, .invokevirtual 147, 3), (68, .istore 4, 2), (70, .aload_n 0, 1), (71, .iload_n 1, 1), (72, .iload_n 2, 1), (73, .iload_n 3, 1), (74, .iconst 1, 1), (75, .invokevirtual 147, 3), (78, .istore 5, 2), (80, .iload_n 3, 1), (81, .ifCond .ne 15, 3), (84, .aload_n 0, 1), (85, .iload_n 1, 1), (86, .iload_n 2, 1), (87, .iload 4, 2), (89, .iload 5, 2), (91, .invokevirtual 150, 3), (94, .iconst 1, 1), (95, .ireturn, 1), (96, .aload_n 0, 1), (97, .iload_n 1, 1), (98, .iload_n 2, 1), (99, .iload 4, 2), (101, .iload 5, 2), (103, .invokevirtual 153, 3), (106, .ireturn, 1)], 6, 6, 95)
def cm44 : Me := ("reportOutcome", "(II)I", 2, 1, [(0, .iconst 2, 1), (1, .iload_n 1, 1), (2, .imul, 1), (3, .bipush 7, 2), (5, .if_icmp .le 5, 3), (8, .iconst 0, 1), (9, .ireturn, 1), (10, .iconst 2, 1), (11, .iload_n 2, 1), (12, .imul, 1), (13, .bipush 7, 2), (15, .if_icmp .le 5, 3), (18, .iconst 1, 1), (19, .ireturn, 1), (20, .iconst 2, 1), (21, .ireturn, 1)], 3, 0, 0)
def cm45 : Me := ("proposalOutcome", "(II)I", 2, 1, [(0, .iload_n 1, 1), (1, .iconst 1, 1), (2, .if_icmp .lt 10, 3), (5, .iload_n 1, 1), (6, .iload_n 2, 1), (7, .if_icmp .lt 5, 3), (10, .iconst 0, 1), (11, .ireturn, 1), (12, .iload_n 2, 1), (13, .iconst 1, 1), (14, .if_icmp .lt 5, 3), (17, .iconst 1, 1), (18, .ireturn, 1), (19, .iconst (-1), 1), (20, .ireturn, 1)], 3, 0, 0)
def cm46 : Me := ("countFor", "(III)I", 3, 1, [(0, .iload_n 1, 1), (1, .ifCond .ne 5, 3), (4, .iload_n 2, 1), (5, .ireturn, 1), (6, .iload_n 3, 1), (7, .ireturn, 1)], 4, 0, 0)
def cm47 : Me := ("finishReportPhase", "(IIII)V", 4, 0, [(0, .aload_n 0, 1), (1, .iload_n 3, 1), (2, .iload 4, 2), (4, .invokevirtual 156, 3), (7, .istore 5, 2), (9, .aload_n 0, 1), (10, .iload_n 1, 1), (11, .iload_n 2, 1), (12, .iconst 1, 1), (13, .iload 5, 2), (15, .invokevirtual 78, 3), (18, .aload_n 0, 1), (19, .getfield 22, 3), (22, .iload_n 1, 1), (23, .iconst 1, 1), (24, .iastore, 1), (25, .return_, 1)], 6, 4, 63)
def cm48 : Me := ("finishProposalPhase", "(IIII)Z", 4, 2, [(0, .aload_n 0, 1), (1, .iload_n 3, 1), (2, .iload 4, 2), (4, .invokevirtual 160, 3), (7, .istore 5, 2), (9, .iload 5, 2), (11, .iconst (-1), 1), (12, .if_icmp .ne 11, 3), (15, .aload_n 0, 1), (16, .iload_n 1, 1), (17, .invokevirtual 163, 3), (20, .goto 24, 3), (23, .aload_n 0, 1), (24, .iload 5, 2), (26, .iload_n 3, 1), (27, .iload 4, 2), (29, .invokevirtual 166, 3), (32, .istore 6, 2), (34, .aload_n 0, 1), (35, .iload_n 1, 1), (36, .iload_n 2, 1), (37, .iload 5, 2), (39, .iload 6, 2), (41, .invokevirtual 169, 3), (44, .iload_n 2, 1), (45, .aload_n 0, 1), (46, .getfield 52, 3), (49, .if_icmp .ne 12, 3), (52, .aload_n 0, 1), (53, .getfield 7, 3), (56, .iload_n 1, 1), (57, .iconst 2, 1), (58, .iastore, 1), (59, .iconst 0, 1), (60, .ireturn, 1), (61, .aload_n 0, 1), (62, .iload_n 1, 1), (63, .iload_n 2, 1), (64, .iconst 1, 1), (65, .iadd, 1), (66, .invokevirtual 172, 3), (69, .iconst 1, 1), (70, .ireturn, 1)], 7, 5, 77)
def cm49 : Me := ("adoptValue", "(IIII)V", 4, 0, [(0, .aload_n 0, 1), (1, .getfield 25, 3), (4, .iload_n 1, 1), (5, .iaload, 1), (6, .iconst (-1), 1), (7, .if_icmp .ne 28, 3), (10, .iload 4, 2), (12, .aload_n 0, 1), (13, .getfield 48, 3), (16, .iconst 1, 1), (17, .iadd, 1), (18, .if_icmp .lt 17, 3), (21, .aload_n 0, 1), (22, .getfield 25, 3), (25, .iload_n 1, 1), (26, .iload_n 3, 1), (27, .iastore, 1), (28, .aload_n 0, 1), (29, .getfield 28, 3), (32, .iload_n 1, 1), (33, .iload_n 2, 1), (34, .iastore, 1), (35, .aload_n 0, 1), (36, .getfield 16, 3), (39, .iload_n 1, 1), (40, .iload_n 3, 1), (41, .iastore, 1), (42, .return_, 1)], 5, 0, 0)
def cm50 : Me := ("drawCoin", "(I)V", 1, 0, [(0, .aload_n 0, 1), (1, .getfield 31, 3), (4, .iload_n 1, 1), (5, .laload, 1), (6, .ldc2_w 175, 3), (9, .lmul, 1), (10, .ldc2_w 177, 3), (13, .ladd, 1), (14, .lstore_n 2, 1), (15, .aload_n 0, 1), (16, .getfield 31, 3), (19, .iload_n 1, 1), (20, .lload_n 2, 1), (21, .lastore, 1), (22, .aload_n 0, 1), (23, .getfield 16, 3), (26, .iload_n 1, 1), (27, .lload_n 2, 1), (28, .bipush 63, 2), (30, .lushr, 1), (31, .l2i, 1), (32, .iastore, 1), (33, .aload_n 0, 1), (34, .getfield 35, 3), (37, .iload_n 1, 1), (38, .aload_n 0, 1), (39, .getfield 35, 3), (42, .iload_n 1, 1), (43, .iaload, 1), (44, .iconst 1, 1), (45, .iadd, 1), (46, .iastore, 1), (47, .return_, 1)], 4, 0, 0)
def cm51 : Me := ("startRound", "(II)V", 2, 0, [(0, .aload_n 0, 1), (1, .getfield 19, 3), (4, .iload_n 1, 1), (5, .iload_n 2, 1), (6, .iastore, 1), (7, .aload_n 0, 1), (8, .getfield 22, 3), (11, .iload_n 1, 1), (12, .iconst 0, 1), (13, .iastore, 1), (14, .aload_n 0, 1), (15, .iload_n 1, 1), (16, .iload_n 2, 1), (17, .iconst 0, 1), (18, .aload_n 0, 1), (19, .getfield 16, 3), (22, .iload_n 1, 1), (23, .iaload, 1), (24, .invokevirtual 78, 3), (27, .return_, 1)], 3, 4, 63)
def PP : Cl := ("RandomConsensus", [(19, ("faultLimit", "I", 0, false)), (20, ("roundLimit", "I", 0, false)), (21, ("quorum", "I", 0, false)), (22, ("crashTotal", "I", 0, false)), (23, ("procStatus", "[I", 3, false)), (24, ("procInput", "[I", 4, false)), (25, ("procEstimate", "[I", 5, false)), (26, ("procRound", "[I", 6, false)), (27, ("procPhase", "[I", 7, false)), (28, ("procDecision", "[I", 8, false)), (29, ("procDecisionRound", "[I", 9, false)), (30, ("procCoin", "[J", 10, false)), (31, ("procFlips", "[I", 11, false)), (32, ("sentValues", "[I", 12, false)), (33, ("copyStates", "[I", 13, false))], [(0, 7), (0, 7), (0, 7), (0, 7), (0, 7), (0, 7), (0, 7), (2, 7), (0, 7), (0, 112), (0, 784)], [(7, 23), (13, 24), (16, 25), (19, 26), (22, 27), (25, 28), (28, 29), (31, 30), (35, 31), (38, 32), (41, 33), (48, 19), (52, 20), (55, 21), (58, 22)], [(44, 20), (61, 17), (64, 19), (67, 21), (71, 24), (74, 28), (78, 36), (82, 42), (86, 22), (89, 23), (92, 26), (96, 38), (100, 37), (104, 27), (107, 32), (110, 34), (113, 18), (118, 31), (122, 29), (125, 30), (128, 25), (131, 33), (134, 35), (138, 39), (141, 43), (144, 40), (147, 41), (150, 47), (153, 48), (156, 44), (160, 45), (163, 50), (166, 46), (169, 49), (172, 51)], [(116, .long (4294967295 : Int64)), (175, .long (6364136223846793005 : Int64)), (177, .long (1442695040888963407 : Int64))], [(0, cm0), (2, cm2), (3, cm3), (4, cm4), (9, cm9), (10, cm10), (11, cm11), (17, cm17), (18, cm18), (19, cm19), (20, cm20), (21, cm21), (22, cm22), (23, cm23), (24, cm24), (25, cm25), (26, cm26), (27, cm27), (28, cm28), (29, cm29), (30, cm30), (31, cm31), (32, cm32), (33, cm33), (34, cm34), (35, cm35), (36, cm36), (37, cm37), (38, cm38), (39, cm39), (40, cm40), (41, cm41), (42, cm42), (43, cm43), (44, cm44), (45, cm45), (46, cm46), (47, cm47), (48, cm48), (49, cm49), (50, cm50), (51, cm51)], 1)
def lm0 : Me := ("law", "([I)Z", 1, 2, [(0, .aload_n 0, 1), (1, .iconst 0, 1), (2, .invokestatic 26, 3), (5, .iconst 3, 1), (6, .iand, 1), (7, .istore_n 1, 1), (8, .iconst 1, 1), (9, .aload_n 0, 1), (10, .iconst 1, 1), (11, .invokestatic 26, 3), (14, .bipush 7, 2), (16, .iand, 1), (17, .iadd, 1), (18, .istore_n 2, 1), (19, .new 9, 3), (22, .dup, 1), (23, .iload_n 1, 1), (24, .iload_n 2, 1), (25, .invokespecial 32, 3), (28, .astore_n 3, 1), (29, .aload_n 3, 1), (30, .lconst 0, 1), (31, .iload_n 2, 1), (32, .invokestatic 35, 3), (35, .lstore 4, 2), (37, .lload 4, 2), (39, .lconst 0, 1), (40, .lcmp, 1), (41, .ifCond .ge 5, 3), (44, .iconst 0, 1), (45, .ireturn, 1), (46, .aload_n 0, 1), (47, .iconst 2, 1), (48, .invokestatic 26, 3), (51, .istore 6, 2), (53, .aload_n 0, 1), (54, .iconst 3, 1), (55, .invokestatic 26, 3), (58, .istore 7, 2), (60, .aload_n 0, 1), (61, .iconst 4, 1), (62, .invokestatic 26, 3), (65, .istore 8, 2), (67, .aload_n 0, 1), (68, .iconst 5, 1), (69, .invokestatic 26, 3), (72, .istore 9, 2), (74, .iconst 0, 1), (75, .istore 10, 2), (77, .iload 10, 2), (79, .bipush 7, 2), (81, .if_icmp .ge 65, 3), (84, .iload 6, 2), (86, .iload 10, 2), (88, .iushr, 1), (89, .iconst 1, 1), (90, .iand, 1), (91, .ifCond .ne 49, 3), (94, .aload_n 3, 1), (95, .iload 10, 2), (97, .iload 7, 2), (99, .iload 10, 2), (101, .iushr, 1), (102, .iconst 1, 1), (103, .iand, 1), (104, .iload 8, 2), (106, .iload 10, 2), (108, .iadd, 1), (109, .iload 9, 2), (111, .iload 10, 2), (113, .sipush 977, 3), (116, .imul, 1), (117, .ixor, 1), (118, .invokevirtual 39, 3), (121, .pop, 1), (122, .aload_n 3, 1), (123, .lload 4, 2), (125, .iload_n 2, 1), (126, .invokestatic 35, 3), (129, .lstore 4, 2), (131, .lload 4, 2), (133, .lconst 0, 1), (134, .lcmp, 1), (135, .ifCond .ge 5, 3), (138, .iconst 0, 1), (139, .ireturn, 1), (140, .iinc 10 1, 3), (143, .goto (-66), 3), (146, .bipush 6, 2), (148, .istore 10, 2), (150, .iload 10, 2), (152, .aload_n 0, 1), (153, .arraylength, 1), (154, .if_icmp .ge 272, 3), (157, .aload_n 0, 1), (158, .iload 10, 2), (160, .invokestatic 26, 3), (163, .iconst 3, 1), (164, .iand, 1), (165, .istore 11, 2), (167, .aload_n 0, 1), (168, .iload 10, 2), (170, .iconst 1, 1), (171, .iadd, 1), (172, .invokestatic 26, 3), (175, .istore 12, 2), (177, .aload_n 0, 1), (178, .iload 10, 2), (180, .iconst 2, 1), (181, .iadd, 1), (182, .invokestatic 26, 3), (185, .istore 13, 2), (187, .aload_n 0, 1), (188, .iload 10, 2), (190, .iconst 3, 1), (191, .iadd, 1), (192, .invokestatic 26, 3), (195, .istore 14, 2), (197, .iload 11, 2), (199, .ifCond .ne 44, 3), (202, .aload_n 3, 1), (203, .iload 12, 2), (205, .bipush 7, 2), (207, .invokestatic 43, 3), (210, .iload 13, 2), (212, .iconst 1, 1), (213, .iand, 1), (214, .iload 14, 2), (216, .iload 12, 2), (218, .iload 13, 2), (220, .ixor, 1), (221, .invokevirtual 39, 3), (224, .pop, 1), (225, .aload_n 3, 1), (226, .lload 4, 2), (228, .iload_n 2, 1), (229, .invokestatic 35, 3), (232, .lstore 4, 2), (234, .lload 4, 2), (236, .lconst 0, 1), (237, .lcmp, 1), (238, .ifCond .ge 182, 3), (241, .iconst 0, 1), (242, .ireturn, 1), (243, .iload 11, 2), (245, .iconst 1, 1), (246, .if_icmp .ne 50, 3), (249, .aload_n 3, 1), (250, .iload 12, 2), (252, .bipush 127, 2), (254, .iand, 1), (255, .iload 13, 2), (257, .bipush 127, 2), (259, .iand, 1), (260, .iconst 1, 1), (261, .iload 14, 2), (263, .iload_n 2, 1), (264, .invokestatic 43, 3), (267, .iadd, 1), (268, .iload 14, 2), (270, .iconst 4, 1), (271, .iushr, 1), (272, .iconst 1, 1), (273, .iand, 1), (274, .invokevirtual 47, 3), (277, .pop, 1), (278, .aload_n 3, 1), (279, .lload 4, 2), (281, .iload_n 2, 1), (282, .invokestatic 35, 3), (285, .lstore 4, 2), (287, .lload 4, 2), (289, .lconst 0, 1), (290, .lcmp, 1), (291, .ifCond .ge 129, 3), (294, .iconst 0, 1), (295, .ireturn, 1), (296, .iload 11, 2), (298, .iconst 2, 1), (299, .if_icmp .ne 86, 3), (302, .iload 12, 2), (304, .iconst 1, 1), (305, .iand, 1), (306, .ifCond .ne 8, 3), (309, .bipush 127, 2), (311, .goto 8, 3), (314, .iload 13, 2), (316, .bipush 127, 2), (318, .iand, 1), (319, .istore 15, 2), (321, .iconst 1, 1), (322, .istore 16, 2), (324, .iload 16, 2), (326, .iload_n 2, 1), (327, .if_icmp .gt 55, 3), (330, .iconst 0, 1), (331, .istore 17, 2), (333, .iload 17, 2), (335, .iconst 2, 1), (336, .if_icmp .ge 40, 3), (339, .aload_n 3, 1), (340, .iload 15, 2), (342, .bipush 127, 2), (344, .iload 16, 2), (346, .iload 17, 2), (348, .invokevirtual 47, 3), (351, .pop, 1), (352, .aload_n 3, 1), (353, .lload 4, 2), (355, .iload_n 2, 1), (356, .invokestatic 35, 3), (359, .lstore 4, 2), (361, .lload 4, 2), (363, .lconst 0, 1), (364, .lcmp, 1), (365, .ifCond .ge 5, 3), (368, .iconst 0, 1), (369, .ireturn, 1), (370, .iinc 17 1, 3), (373, .goto (-40), 3), (376, .iinc 16 1, 3), (379, .goto (-55), 3), (382, .goto 38, 3), (385, .aload_n 3, 1), (386, .iload 12, 2), (388, .bipush 7, 2), (390, .invokestatic 43, 3), (393, .iload 13, 2), (395, .bipush 127, 2), (397, .iand, 1), (398, .invokevirtual 51, 3), (401, .pop, 1), (402, .aload_n 3, 1), (403, .lload 4, 2), (405, .iload_n 2, 1), (406, .invokestatic 35, 3), (409, .lstore 4, 2), (411, .lload 4, 2), (413, .lconst 0, 1), (414, .lcmp, 1), (415, .ifCond .ge 5, 3), (418, .iconst 0, 1), (419, .ireturn, 1), (420, .iinc 10 4, 3), (423, .goto (-273), 3), (426, .iconst 1, 1), (427, .ireturn, 1)], 18, 14, 320)
def lm2 : Me := ("cell", "([II)I", 2, 1, [(0, .iload_n 1, 1), (1, .aload_n 0, 1), (2, .arraylength, 1), (3, .if_icmp .ge 9, 3), (6, .aload_n 0, 1), (7, .iload_n 1, 1), (8, .iaload, 1), (9, .goto 4, 3), (12, .iconst 0, 1), (13, .ireturn, 1)], 2, 0, 0)
def lm3 : Me := ("mod", "(II)I", 2, 1, [(0, .iload_n 0, 1), (1, .ldc 7, 2), (3, .iand, 1), (4, .iload_n 1, 1), (5, .irem, 1), (6, .ireturn, 1)], 2, 0, 0)
def lm4 : Me := ("check", "(LRandomConsensus;JI)J", 3, 3, [(0, .iconst (-1), 1), (1, .istore 4, 2), (3, .iconst 0, 1), (4, .istore 5, 2), (6, .iload 5, 2), (8, .bipush 7, 2), (10, .if_icmp .ge 219, 3), (13, .aload_n 0, 1), (14, .iload 5, 2), (16, .invokevirtual 8, 3), (19, .istore 6, 2), (21, .aload_n 0, 1), (22, .iload 5, 2), (24, .invokevirtual 14, 3), (27, .istore 7, 2), (29, .lload_n 1, 1), (30, .bipush 6, 2), (32, .iload 5, 2), (34, .imul, 1), (35, .lushr, 1), (36, .ldc2_w 17, 3), (39, .land, 1), (40, .lstore 8, 2), (42, .lload 8, 2), (44, .lconst 1, 1), (45, .land, 1), (46, .lconst 0, 1), (47, .lcmp, 1), (48, .ifCond .eq 7, 3), (51, .iconst 1, 1), (52, .goto 4, 3), (55, .iconst 0, 1), (56, .istore 10, 2), (58, .iload 6, 2), (60, .ifCond .eq 9, 3), (63, .iload 6, 2), (65, .iconst 1, 1), (66, .if_icmp .ne 148, 3), (69, .iload 4, 2), (71, .iconst (-1), 1), (72, .if_icmp .ne 10, 3), (75, .iload 6, 2), (77, .istore 4, 2), (79, .goto 14, 3), (82, .iload 4, 2), (84, .iload 6, 2), (86, .if_icmp .eq 7, 3), (89, .ldc2_w 19, 3), (92, .lreturn, 1), (93, .iconst 0, 1), (94, .istore 11, 2), (96, .iconst 0, 1), (97, .istore 12, 2), (99, .iload 12, 2), (101, .bipush 7, 2), (103, .if_icmp .ge 23, 3), (106, .aload_n 0, 1), (107, .iload 12, 2), (109, .invokevirtual 21, 3), (112, .iload 6, 2), (114, .if_icmp .ne 6, 3), (117, .iconst 1, 1), (118, .istore 11, 2), (120, .iinc 12 1, 3), (123, .goto (-24), 3), (126, .iload 11, 2), (128, .ifCond .ne 7, 3), (131, .ldc2_w 19, 3), (134, .lreturn, 1), (135, .iload 7, 2), (137, .iconst 1, 1), (138, .if_icmp .lt 9, 3), (141, .iload 7, 2), (143, .iload_n 3, 1), (144, .if_icmp .le 7, 3), (147, .ldc2_w 19, 3), (150, .lreturn, 1), (151, .iload 10, 2), (153, .ifCond .eq 37, 3), (156, .lload 8, 2), (158, .iconst 1, 1), (159, .lushr, 1), (160, .lconst 1, 1), (161, .land, 1), (162, .l2i, 1), (163, .iload 6, 2), (165, .if_icmp .eq 7, 3), (168, .ldc2_w 19, 3), (171, .lreturn, 1), (172, .lload 8, 2), (174, .iconst 2, 1), (175, .lushr, 1), (176, .ldc2_w 24, 3), (179, .land, 1), (180, .l2i, 1), (181, .iload 7, 2), (183, .if_icmp .eq 28, 3), (186, .ldc2_w 19, 3), (189, .lreturn, 1), (190, .lload_n 1, 1), (191, .iconst 1, 1), (192, .iload 6, 2), (194, .iconst 1, 1), (195, .ishl, 1), (196, .ior, 1), (197, .iload 7, 2), (199, .iconst 2, 1), (200, .ishl, 1), (201, .ior, 1), (202, .i2l, 1), (203, .bipush 6, 2), (205, .iload 5, 2), (207, .imul, 1), (208, .lshl, 1), (209, .lor, 1), (210, .lstore_n 1, 1), (211, .goto 12, 3), (214, .iload 10, 2), (216, .ifCond .eq 7, 3), (219, .ldc2_w 19, 3), (222, .lreturn, 1), (223, .iinc 5 1, 3), (226, .goto (-220), 3), (229, .lload_n 1, 1), (230, .lreturn, 1)], 13, 2, 26)
def QQ : Lw := ("RandomConsensusOwnLaw", [(26, 2), (35, 4), (43, 3)], [(8, 10), (14, 11), (21, 9), (39, 2), (47, 3), (51, 4)], 32, 9, 15, [(7, .int (2147483647 : Int32)), (17, .long (63 : Int64)), (19, .long (-1 : Int64)), (24, .long (15 : Int64))], [(0, lm0), (2, lm2), (3, lm3), (4, lm4)], 32, 2048)
set_option maxRecDepth 100000
set_option maxHeartbeats 1000000
theorem dk_l2 : chk method_2_code lm2.cd = true := by decide +kernel
theorem dk_c0 : chk prog_1_method_1_code cm0.cd = true := by decide +kernel
theorem dk_c20 : chk prog_1_method_20_code cm20.cd = true := by decide +kernel
theorem dk_c17 : chk prog_1_method_17_code cm17.cd = true := by decide +kernel
theorem dk_c18 : chk prog_1_method_18_code cm18.cd = true := by decide +kernel
theorem dk_c21 : chk prog_1_method_21_code cm21.cd = true := by decide +kernel
theorem dk_c19 : chk prog_1_method_19_code cm19.cd = true := by decide +kernel
theorem dk_l4 : chk method_4_code lm4.cd = true := by decide +kernel
theorem dk_c10 : chk prog_1_method_10_code cm10.cd = true := by decide +kernel
theorem dk_c11 : chk prog_1_method_11_code cm11.cd = true := by decide +kernel
theorem dk_c2 : chk prog_1_method_2_code cm2.cd = true := by decide +kernel
theorem dk_c24 : chk prog_1_method_24_code cm24.cd = true := by decide +kernel
theorem dk_c28 : chk prog_1_method_28_code cm28.cd = true := by decide +kernel
theorem dk_c36 : chk prog_1_method_36_code cm36.cd = true := by decide +kernel
theorem dk_c25 : chk prog_1_method_25_code cm25.cd = true := by decide +kernel
theorem dk_c33 : chk prog_1_method_33_code cm33.cd = true := by decide +kernel
theorem dk_c31 : chk prog_1_method_31_code cm31.cd = true := by decide +kernel
theorem dk_c22 : chk prog_1_method_22_code cm22.cd = true := by decide +kernel
theorem dk_c23 : chk prog_1_method_23_code cm23.cd = true := by decide +kernel
theorem dk_c29 : chk prog_1_method_29_code cm29.cd = true := by decide +kernel
theorem dk_c35 : chk prog_1_method_35_code cm35.cd = true := by decide +kernel
theorem dk_c30 : chk prog_1_method_30_code cm30.cd = true := by decide +kernel
theorem dk_c42 : chk prog_1_method_42_code cm42.cd = true := by decide +kernel
theorem dk_c43 : chk prog_1_method_43_code cm43.cd = true := by decide +kernel
theorem dk_c40 : chk prog_1_method_40_code cm40.cd = true := by decide +kernel
theorem dk_c34 : chk prog_1_method_34_code cm34.cd = true := by decide +kernel
theorem dk_c3 : chk prog_1_method_3_code cm3.cd = true := by decide +kernel
theorem dk_c26 : chk prog_1_method_26_code cm26.cd = true := by decide +kernel
theorem dk_c38 : chk prog_1_method_38_code cm38.cd = true := by decide +kernel
theorem dk_c39 : chk prog_1_method_39_code cm39.cd = true := by decide +kernel
theorem dk_l3 : chk method_3_code lm3.cd = true := by decide +kernel
theorem dk_c4 : chk prog_1_method_4_code cm4.cd = true := by decide +kernel
theorem dk_c37 : chk prog_1_method_37_code cm37.cd = true := by decide +kernel
theorem dk_c41 : chk prog_1_method_41_code cm41.cd = true := by decide +kernel
theorem dk_c32 : chk prog_1_method_32_code cm32.cd = true := by decide +kernel
theorem dk_c47 : chk prog_1_method_47_code cm47.cd = true := by decide +kernel
theorem dk_c44 : chk prog_1_method_44_code cm44.cd = true := by decide +kernel
theorem dk_c48 : chk prog_1_method_48_code cm48.cd = true := by decide +kernel
theorem dk_c45 : chk prog_1_method_45_code cm45.cd = true := by decide +kernel
theorem dk_c46 : chk prog_1_method_46_code cm46.cd = true := by decide +kernel
theorem dk_c49 : chk prog_1_method_49_code cm49.cd = true := by decide +kernel
theorem dk_c51 : chk prog_1_method_51_code cm51.cd = true := by decide +kernel
theorem dk_c9 : chk prog_1_method_9_code cm9.cd = true := by decide +kernel
theorem dk_c27 : chk prog_1_method_27_code cm27.cd = true := by decide +kernel
theorem dk_c50 : chk prog_1_method_50_code cm50.cd = true := by decide +kernel
theorem dk_l0 : chk code lm0.cd = true := by decide +kernel
theorem pk_l2 : parseMethodDescriptor "([II)I" = some ⟨[.array .int, .int], some .int⟩ := by decide +kernel
theorem pk_c0 : parseMethodDescriptor "(II)V" = some ⟨[.int, .int], none⟩ := by decide +kernel
theorem pk_c20 : parseMethodDescriptor "(III)I" = some ⟨[.int, .int, .int], some .int⟩ := by decide +kernel
theorem pk_c17 : parseMethodDescriptor "()V" = some ⟨[], none⟩ := by decide +kernel
theorem pk_c18 : parseMethodDescriptor "(I)V" = some ⟨[.int], none⟩ := by decide +kernel
theorem pk_c21 : parseMethodDescriptor "(I)Z" = some ⟨[.int], some .boolean⟩ := by decide +kernel
theorem pk_c19 : parseMethodDescriptor "()V" = some ⟨[], none⟩ := by decide +kernel
theorem pk_l4 : parseMethodDescriptor "(LRandomConsensus;JI)J" = some ⟨[.object "RandomConsensus", .long, .int], some .long⟩ := by decide +kernel
theorem pk_c10 : parseMethodDescriptor "(I)I" = some ⟨[.int], some .int⟩ := by decide +kernel
theorem pk_c11 : parseMethodDescriptor "(I)I" = some ⟨[.int], some .int⟩ := by decide +kernel
theorem pk_c2 : parseMethodDescriptor "(IIII)Z" = some ⟨[.int, .int, .int, .int], some .boolean⟩ := by decide +kernel
theorem pk_c24 : parseMethodDescriptor "(I)Z" = some ⟨[.int], some .boolean⟩ := by decide +kernel
theorem pk_c28 : parseMethodDescriptor "(II)J" = some ⟨[.int, .int], some .long⟩ := by decide +kernel
theorem pk_c36 : parseMethodDescriptor "(IIII)V" = some ⟨[.int, .int, .int, .int], none⟩ := by decide +kernel
theorem pk_c25 : parseMethodDescriptor "(I)Z" = some ⟨[.int], some .boolean⟩ := by decide +kernel
theorem pk_c33 : parseMethodDescriptor "(IIII)V" = some ⟨[.int, .int, .int, .int], none⟩ := by decide +kernel
theorem pk_c31 : parseMethodDescriptor "(IIII)Z" = some ⟨[.int, .int, .int, .int], some .boolean⟩ := by decide +kernel
theorem pk_c22 : parseMethodDescriptor "(I)Z" = some ⟨[.int], some .boolean⟩ := by decide +kernel
theorem pk_c23 : parseMethodDescriptor "(I)Z" = some ⟨[.int], some .boolean⟩ := by decide +kernel
theorem pk_c29 : parseMethodDescriptor "(III)I" = some ⟨[.int, .int, .int], some .int⟩ := by decide +kernel
theorem pk_c35 : parseMethodDescriptor "(IIIII)V" = some ⟨[.int, .int, .int, .int, .int], none⟩ := by decide +kernel
theorem pk_c30 : parseMethodDescriptor "(IIII)I" = some ⟨[.int, .int, .int, .int], some .int⟩ := by decide +kernel
theorem pk_c42 : parseMethodDescriptor "(I)V" = some ⟨[.int], none⟩ := by decide +kernel
theorem pk_c43 : parseMethodDescriptor "(I)Z" = some ⟨[.int], some .boolean⟩ := by decide +kernel
theorem pk_c40 : parseMethodDescriptor "(III)I" = some ⟨[.int, .int, .int], some .int⟩ := by decide +kernel
theorem pk_c34 : parseMethodDescriptor "(IIII)I" = some ⟨[.int, .int, .int, .int], some .int⟩ := by decide +kernel
theorem pk_c3 : parseMethodDescriptor "(IIII)I" = some ⟨[.int, .int, .int, .int], some .int⟩ := by decide +kernel
theorem pk_c26 : parseMethodDescriptor "(II)Z" = some ⟨[.int, .int], some .boolean⟩ := by decide +kernel
theorem pk_c38 : parseMethodDescriptor "(IIII)I" = some ⟨[.int, .int, .int, .int], some .int⟩ := by decide +kernel
theorem pk_c39 : parseMethodDescriptor "(IIII)Z" = some ⟨[.int, .int, .int, .int], some .boolean⟩ := by decide +kernel
theorem pk_l3 : parseMethodDescriptor "(II)I" = some ⟨[.int, .int], some .int⟩ := by decide +kernel
theorem pk_c4 : parseMethodDescriptor "(II)Z" = some ⟨[.int, .int], some .boolean⟩ := by decide +kernel
theorem pk_c37 : parseMethodDescriptor "(II)V" = some ⟨[.int, .int], none⟩ := by decide +kernel
theorem pk_c41 : parseMethodDescriptor "(IIII)I" = some ⟨[.int, .int, .int, .int], some .int⟩ := by decide +kernel
theorem pk_c32 : parseMethodDescriptor "(III)I" = some ⟨[.int, .int, .int], some .int⟩ := by decide +kernel
theorem pk_c47 : parseMethodDescriptor "(IIII)V" = some ⟨[.int, .int, .int, .int], none⟩ := by decide +kernel
theorem pk_c44 : parseMethodDescriptor "(II)I" = some ⟨[.int, .int], some .int⟩ := by decide +kernel
theorem pk_c48 : parseMethodDescriptor "(IIII)Z" = some ⟨[.int, .int, .int, .int], some .boolean⟩ := by decide +kernel
theorem pk_c45 : parseMethodDescriptor "(II)I" = some ⟨[.int, .int], some .int⟩ := by decide +kernel
theorem pk_c46 : parseMethodDescriptor "(III)I" = some ⟨[.int, .int, .int], some .int⟩ := by decide +kernel
theorem pk_c49 : parseMethodDescriptor "(IIII)V" = some ⟨[.int, .int, .int, .int], none⟩ := by decide +kernel
theorem pk_c51 : parseMethodDescriptor "(II)V" = some ⟨[.int, .int], none⟩ := by decide +kernel
theorem pk_c9 : parseMethodDescriptor "(I)I" = some ⟨[.int], some .int⟩ := by decide +kernel
theorem pk_c27 : parseMethodDescriptor "(I)Z" = some ⟨[.int], some .boolean⟩ := by decide +kernel
theorem pk_c50 : parseMethodDescriptor "(I)V" = some ⟨[.int], none⟩ := by decide +kernel
theorem lkC (Z : State) (a0 : Array Value) (hw : ∀ d ∈ tables_1, d.before a0 Z = true) : LinkC PP Z a0 :=
  ⟨⟨⟨15, (hw _ (List.mem_of_getElem? (i := 5) rfl))⟩, (hw _ (List.mem_of_getElem? (i := 6) rfl))⟩,
   asc_all (⟨by intro z h; obtain rfl : ("procStatus", "[I", 3, false) = z := Option.some.inj h; exact (hw _ (List.mem_of_getElem? (i := 14) rfl)), by intro z h; obtain rfl : ("procInput", "[I", 4, false) = z := Option.some.inj h; exact (hw _ (List.mem_of_getElem? (i := 16) rfl)), by intro z h; obtain rfl : ("procEstimate", "[I", 5, false) = z := Option.some.inj h; exact (hw _ (List.mem_of_getElem? (i := 18) rfl)), by intro z h; obtain rfl : ("procRound", "[I", 6, false) = z := Option.some.inj h; exact (hw _ (List.mem_of_getElem? (i := 20) rfl)), by intro z h; obtain rfl : ("procPhase", "[I", 7, false) = z := Option.some.inj h; exact (hw _ (List.mem_of_getElem? (i := 22) rfl)), by intro z h; obtain rfl : ("procDecision", "[I", 8, false) = z := Option.some.inj h; exact (hw _ (List.mem_of_getElem? (i := 24) rfl)), by intro z h; obtain rfl : ("procDecisionRound", "[I", 9, false) = z := Option.some.inj h; exact (hw _ (List.mem_of_getElem? (i := 26) rfl)), by intro z h; obtain rfl : ("procCoin", "[J", 10, false) = z := Option.some.inj h; exact (hw _ (List.mem_of_getElem? (i := 29) rfl)), by intro z h; obtain rfl : ("procFlips", "[I", 11, false) = z := Option.some.inj h; exact (hw _ (List.mem_of_getElem? (i := 31) rfl)), by intro z h; obtain rfl : ("sentValues", "[I", 12, false) = z := Option.some.inj h; exact (hw _ (List.mem_of_getElem? (i := 33) rfl)), by intro z h; obtain rfl : ("copyStates", "[I", 13, false) = z := Option.some.inj h; exact (hw _ (List.mem_of_getElem? (i := 35) rfl)), by intro z h; obtain rfl : ("faultLimit", "I", 0, false) = z := Option.some.inj h; exact (hw _ (List.mem_of_getElem? (i := 41) rfl)), by intro z h; obtain rfl : ("roundLimit", "I", 0, false) = z := Option.some.inj h; exact (hw _ (List.mem_of_getElem? (i := 43) rfl)), by intro z h; obtain rfl : ("quorum", "I", 0, false) = z := Option.some.inj h; exact (hw _ (List.mem_of_getElem? (i := 45) rfl)), by intro z h; obtain rfl : ("crashTotal", "I", 0, false) = z := Option.some.inj h; exact (hw _ (List.mem_of_getElem? (i := 47) rfl)), trivial⟩),
   asc_all (⟨(hw _ (List.mem_of_getElem? (i := 42) rfl)), (hw _ (List.mem_of_getElem? (i := 44) rfl)), (hw _ (List.mem_of_getElem? (i := 46) rfl)), (hw _ (List.mem_of_getElem? (i := 48) rfl)), (hw _ (List.mem_of_getElem? (i := 15) rfl)), (hw _ (List.mem_of_getElem? (i := 17) rfl)), (hw _ (List.mem_of_getElem? (i := 19) rfl)), (hw _ (List.mem_of_getElem? (i := 21) rfl)), (hw _ (List.mem_of_getElem? (i := 23) rfl)), (hw _ (List.mem_of_getElem? (i := 25) rfl)), (hw _ (List.mem_of_getElem? (i := 27) rfl)), (hw _ (List.mem_of_getElem? (i := 30) rfl)), (hw _ (List.mem_of_getElem? (i := 32) rfl)), (hw _ (List.mem_of_getElem? (i := 34) rfl)), (hw _ (List.mem_of_getElem? (i := 36) rfl)), trivial⟩),
   asc_all (⟨(by decide +kernel), (by decide +kernel), (by decide +kernel), (by decide +kernel), (by decide +kernel), (by decide +kernel), (by decide +kernel), (by decide +kernel), (by decide +kernel), (by decide +kernel), (by decide +kernel), (by decide +kernel), (by decide +kernel), (by decide +kernel), (by decide +kernel), trivial⟩),
   dst_ok (by decide +kernel),
   lst_all (⟨⟨by decide, (hw _ (List.mem_of_getElem? (i := 13) rfl))⟩, ⟨by decide, (hw _ (List.mem_of_getElem? (i := 13) rfl))⟩, ⟨by decide, (hw _ (List.mem_of_getElem? (i := 13) rfl))⟩, ⟨by decide, (hw _ (List.mem_of_getElem? (i := 13) rfl))⟩, ⟨by decide, (hw _ (List.mem_of_getElem? (i := 13) rfl))⟩, ⟨by decide, (hw _ (List.mem_of_getElem? (i := 13) rfl))⟩, ⟨by decide, (hw _ (List.mem_of_getElem? (i := 13) rfl))⟩, ⟨by decide, (hw _ (List.mem_of_getElem? (i := 28) rfl))⟩, ⟨by decide, (hw _ (List.mem_of_getElem? (i := 13) rfl))⟩, ⟨by decide, (hw _ (List.mem_of_getElem? (i := 13) rfl))⟩, ⟨by decide, (hw _ (List.mem_of_getElem? (i := 13) rfl))⟩, trivial⟩),
   asc_all (⟨(hw _ (List.mem_of_getElem? (i := 92) rfl)), (hw _ (List.mem_of_getElem? (i := 225) rfl)), (hw _ (List.mem_of_getElem? (i := 226) rfl)), trivial⟩),
   ⟨(hw _ (List.mem_of_getElem? (i := 10) rfl)), (hw _ (List.mem_of_getElem? (i := 11) rfl)), (hw _ (List.mem_of_getElem? (i := 12) rfl))⟩,
   asc_all (⟨⟨prog_1_method_1_code, [.int, .int], (hw _ (List.mem_of_getElem? (i := 9) rfl)), chk_ok dk_c0, pk_c0, rfl⟩, ⟨prog_1_method_2_code, [.int, .int, .int, .int], (hw _ (List.mem_of_getElem? (i := 83) rfl)), chk_ok dk_c2, pk_c2, rfl⟩, ⟨prog_1_method_3_code, [.int, .int, .int, .int], (hw _ (List.mem_of_getElem? (i := 149) rfl)), chk_ok dk_c3, pk_c3, rfl⟩, ⟨prog_1_method_4_code, [.int, .int], (hw _ (List.mem_of_getElem? (i := 170) rfl)), chk_ok dk_c4, pk_c4, rfl⟩, ⟨prog_1_method_9_code, [.int], (hw _ (List.mem_of_getElem? (i := 215) rfl)), chk_ok dk_c9, pk_c9, rfl⟩, ⟨prog_1_method_10_code, [.int], (hw _ (List.mem_of_getElem? (i := 72) rfl)), chk_ok dk_c10, pk_c10, rfl⟩, ⟨prog_1_method_11_code, [.int], (hw _ (List.mem_of_getElem? (i := 77) rfl)), chk_ok dk_c11, pk_c11, rfl⟩, ⟨prog_1_method_17_code, [], (hw _ (List.mem_of_getElem? (i := 52) rfl)), chk_ok dk_c17, pk_c17, rfl⟩, ⟨prog_1_method_18_code, [.int], (hw _ (List.mem_of_getElem? (i := 56) rfl)), chk_ok dk_c18, pk_c18, rfl⟩, ⟨prog_1_method_19_code, [], (hw _ (List.mem_of_getElem? (i := 64) rfl)), chk_ok dk_c19, pk_c19, rfl⟩, ⟨prog_1_method_20_code, [.int, .int, .int], (hw _ (List.mem_of_getElem? (i := 40) rfl)), chk_ok dk_c20, pk_c20, rfl⟩, ⟨prog_1_method_21_code, [.int], (hw _ (List.mem_of_getElem? (i := 60) rfl)), chk_ok dk_c21, pk_c21, rfl⟩, ⟨prog_1_method_22_code, [.int], (hw _ (List.mem_of_getElem? (i := 112) rfl)), chk_ok dk_c22, pk_c22, rfl⟩, ⟨prog_1_method_23_code, [.int], (hw _ (List.mem_of_getElem? (i := 116) rfl)), chk_ok dk_c23, pk_c23, rfl⟩, ⟨prog_1_method_24_code, [.int], (hw _ (List.mem_of_getElem? (i := 87) rfl)), chk_ok dk_c24, pk_c24, rfl⟩, ⟨prog_1_method_25_code, [.int], (hw _ (List.mem_of_getElem? (i := 100) rfl)), chk_ok dk_c25, pk_c25, rfl⟩, ⟨prog_1_method_26_code, [.int, .int], (hw _ (List.mem_of_getElem? (i := 153) rfl)), chk_ok dk_c26, pk_c26, rfl⟩, ⟨prog_1_method_27_code, [.int], (hw _ (List.mem_of_getElem? (i := 219) rfl)), chk_ok dk_c27, pk_c27, rfl⟩, ⟨prog_1_method_28_code, [.int, .int], (hw _ (List.mem_of_getElem? (i := 91) rfl)), chk_ok dk_c28, pk_c28, rfl⟩, ⟨prog_1_method_29_code, [.int, .int, .int], (hw _ (List.mem_of_getElem? (i := 120) rfl)), chk_ok dk_c29, pk_c29, rfl⟩, ⟨prog_1_method_30_code, [.int, .int, .int, .int], (hw _ (List.mem_of_getElem? (i := 128) rfl)), chk_ok dk_c30, pk_c30, rfl⟩, ⟨prog_1_method_31_code, [.int, .int, .int, .int], (hw _ (List.mem_of_getElem? (i := 108) rfl)), chk_ok dk_c31, pk_c31, rfl⟩, ⟨prog_1_method_32_code, [.int, .int, .int], (hw _ (List.mem_of_getElem? (i := 182) rfl)), chk_ok dk_c32, pk_c32, rfl⟩, ⟨prog_1_method_33_code, [.int, .int, .int, .int], (hw _ (List.mem_of_getElem? (i := 104) rfl)), chk_ok dk_c33, pk_c33, rfl⟩, ⟨prog_1_method_34_code, [.int, .int, .int, .int], (hw _ (List.mem_of_getElem? (i := 144) rfl)), chk_ok dk_c34, pk_c34, rfl⟩, ⟨prog_1_method_35_code, [.int, .int, .int, .int, .int], (hw _ (List.mem_of_getElem? (i := 124) rfl)), chk_ok dk_c35, pk_c35, rfl⟩, ⟨prog_1_method_36_code, [.int, .int, .int, .int], (hw _ (List.mem_of_getElem? (i := 96) rfl)), chk_ok dk_c36, pk_c36, rfl⟩, ⟨prog_1_method_37_code, [.int, .int], (hw _ (List.mem_of_getElem? (i := 174) rfl)), chk_ok dk_c37, pk_c37, rfl⟩, ⟨prog_1_method_38_code, [.int, .int, .int, .int], (hw _ (List.mem_of_getElem? (i := 157) rfl)), chk_ok dk_c38, pk_c38, rfl⟩, ⟨prog_1_method_39_code, [.int, .int, .int, .int], (hw _ (List.mem_of_getElem? (i := 161) rfl)), chk_ok dk_c39, pk_c39, rfl⟩, ⟨prog_1_method_40_code, [.int, .int, .int], (hw _ (List.mem_of_getElem? (i := 140) rfl)), chk_ok dk_c40, pk_c40, rfl⟩, ⟨prog_1_method_41_code, [.int, .int, .int, .int], (hw _ (List.mem_of_getElem? (i := 178) rfl)), chk_ok dk_c41, pk_c41, rfl⟩, ⟨prog_1_method_42_code, [.int], (hw _ (List.mem_of_getElem? (i := 132) rfl)), chk_ok dk_c42, pk_c42, rfl⟩, ⟨prog_1_method_43_code, [.int], (hw _ (List.mem_of_getElem? (i := 136) rfl)), chk_ok dk_c43, pk_c43, rfl⟩, ⟨prog_1_method_44_code, [.int, .int], (hw _ (List.mem_of_getElem? (i := 190) rfl)), chk_ok dk_c44, pk_c44, rfl⟩, ⟨prog_1_method_45_code, [.int, .int], (hw _ (List.mem_of_getElem? (i := 198) rfl)), chk_ok dk_c45, pk_c45, rfl⟩, ⟨prog_1_method_46_code, [.int, .int, .int], (hw _ (List.mem_of_getElem? (i := 202) rfl)), chk_ok dk_c46, pk_c46, rfl⟩, ⟨prog_1_method_47_code, [.int, .int, .int, .int], (hw _ (List.mem_of_getElem? (i := 186) rfl)), chk_ok dk_c47, pk_c47, rfl⟩, ⟨prog_1_method_48_code, [.int, .int, .int, .int], (hw _ (List.mem_of_getElem? (i := 194) rfl)), chk_ok dk_c48, pk_c48, rfl⟩, ⟨prog_1_method_49_code, [.int, .int, .int, .int], (hw _ (List.mem_of_getElem? (i := 206) rfl)), chk_ok dk_c49, pk_c49, rfl⟩, ⟨prog_1_method_50_code, [.int], (hw _ (List.mem_of_getElem? (i := 224) rfl)), chk_ok dk_c50, pk_c50, rfl⟩, ⟨prog_1_method_51_code, [.int, .int], (hw _ (List.mem_of_getElem? (i := 210) rfl)), chk_ok dk_c51, pk_c51, rfl⟩, trivial⟩),
   asc_all (⟨by intro z h; obtain rfl : cm20 = z := Option.some.inj h; exact ⟨(hw _ (List.mem_of_getElem? (i := 37) rfl)), (hw _ (List.mem_of_getElem? (i := 38) rfl)), Or.inl (hw _ (List.mem_of_getElem? (i := 39) rfl))⟩, by intro z h; obtain rfl : cm17 = z := Option.some.inj h; exact ⟨(hw _ (List.mem_of_getElem? (i := 49) rfl)), (hw _ (List.mem_of_getElem? (i := 50) rfl)), Or.inl (hw _ (List.mem_of_getElem? (i := 51) rfl))⟩, by intro z h; obtain rfl : cm19 = z := Option.some.inj h; exact ⟨(hw _ (List.mem_of_getElem? (i := 61) rfl)), (hw _ (List.mem_of_getElem? (i := 62) rfl)), Or.inl (hw _ (List.mem_of_getElem? (i := 63) rfl))⟩, by intro z h; obtain rfl : cm21 = z := Option.some.inj h; exact ⟨(hw _ (List.mem_of_getElem? (i := 57) rfl)), (hw _ (List.mem_of_getElem? (i := 58) rfl)), Or.inl (hw _ (List.mem_of_getElem? (i := 59) rfl))⟩, by intro z h; obtain rfl : cm24 = z := Option.some.inj h; exact ⟨(hw _ (List.mem_of_getElem? (i := 84) rfl)), (hw _ (List.mem_of_getElem? (i := 85) rfl)), Or.inl (hw _ (List.mem_of_getElem? (i := 86) rfl))⟩, by intro z h; obtain rfl : cm28 = z := Option.some.inj h; exact ⟨(hw _ (List.mem_of_getElem? (i := 88) rfl)), (hw _ (List.mem_of_getElem? (i := 89) rfl)), Or.inl (hw _ (List.mem_of_getElem? (i := 90) rfl))⟩, by intro z h; obtain rfl : cm36 = z := Option.some.inj h; exact ⟨(hw _ (List.mem_of_getElem? (i := 93) rfl)), (hw _ (List.mem_of_getElem? (i := 94) rfl)), Or.inl (hw _ (List.mem_of_getElem? (i := 95) rfl))⟩, by intro z h; obtain rfl : cm42 = z := Option.some.inj h; exact ⟨(hw _ (List.mem_of_getElem? (i := 129) rfl)), (hw _ (List.mem_of_getElem? (i := 130) rfl)), Or.inl (hw _ (List.mem_of_getElem? (i := 131) rfl))⟩, by intro z h; obtain rfl : cm22 = z := Option.some.inj h; exact ⟨(hw _ (List.mem_of_getElem? (i := 109) rfl)), (hw _ (List.mem_of_getElem? (i := 110) rfl)), Or.inl (hw _ (List.mem_of_getElem? (i := 111) rfl))⟩, by intro z h; obtain rfl : cm23 = z := Option.some.inj h; exact ⟨(hw _ (List.mem_of_getElem? (i := 113) rfl)), (hw _ (List.mem_of_getElem? (i := 114) rfl)), Or.inl (hw _ (List.mem_of_getElem? (i := 115) rfl))⟩, by intro z h; obtain rfl : cm26 = z := Option.some.inj h; exact ⟨(hw _ (List.mem_of_getElem? (i := 150) rfl)), (hw _ (List.mem_of_getElem? (i := 151) rfl)), Or.inl (hw _ (List.mem_of_getElem? (i := 152) rfl))⟩, by intro z h; obtain rfl : cm38 = z := Option.some.inj h; exact ⟨(hw _ (List.mem_of_getElem? (i := 154) rfl)), (hw _ (List.mem_of_getElem? (i := 155) rfl)), Or.inl (hw _ (List.mem_of_getElem? (i := 156) rfl))⟩, by intro z h; obtain rfl : cm37 = z := Option.some.inj h; exact ⟨(hw _ (List.mem_of_getElem? (i := 171) rfl)), (hw _ (List.mem_of_getElem? (i := 172) rfl)), Or.inl (hw _ (List.mem_of_getElem? (i := 173) rfl))⟩, by intro z h; obtain rfl : cm27 = z := Option.some.inj h; exact ⟨(hw _ (List.mem_of_getElem? (i := 216) rfl)), (hw _ (List.mem_of_getElem? (i := 217) rfl)), Or.inl (hw _ (List.mem_of_getElem? (i := 218) rfl))⟩, by intro z h; obtain rfl : cm32 = z := Option.some.inj h; exact ⟨(hw _ (List.mem_of_getElem? (i := 179) rfl)), (hw _ (List.mem_of_getElem? (i := 180) rfl)), Or.inl (hw _ (List.mem_of_getElem? (i := 181) rfl))⟩, by intro z h; obtain rfl : cm34 = z := Option.some.inj h; exact ⟨(hw _ (List.mem_of_getElem? (i := 141) rfl)), (hw _ (List.mem_of_getElem? (i := 142) rfl)), Or.inl (hw _ (List.mem_of_getElem? (i := 143) rfl))⟩, by intro z h; obtain rfl : cm18 = z := Option.some.inj h; exact ⟨(hw _ (List.mem_of_getElem? (i := 53) rfl)), (hw _ (List.mem_of_getElem? (i := 54) rfl)), Or.inl (hw _ (List.mem_of_getElem? (i := 55) rfl))⟩, by intro z h; obtain rfl : cm31 = z := Option.some.inj h; exact ⟨(hw _ (List.mem_of_getElem? (i := 105) rfl)), (hw _ (List.mem_of_getElem? (i := 106) rfl)), Or.inl (hw _ (List.mem_of_getElem? (i := 107) rfl))⟩, by intro z h; obtain rfl : cm29 = z := Option.some.inj h; exact ⟨(hw _ (List.mem_of_getElem? (i := 117) rfl)), (hw _ (List.mem_of_getElem? (i := 118) rfl)), Or.inl (hw _ (List.mem_of_getElem? (i := 119) rfl))⟩, by intro z h; obtain rfl : cm30 = z := Option.some.inj h; exact ⟨(hw _ (List.mem_of_getElem? (i := 125) rfl)), (hw _ (List.mem_of_getElem? (i := 126) rfl)), Or.inl (hw _ (List.mem_of_getElem? (i := 127) rfl))⟩, by intro z h; obtain rfl : cm25 = z := Option.some.inj h; exact ⟨(hw _ (List.mem_of_getElem? (i := 97) rfl)), (hw _ (List.mem_of_getElem? (i := 98) rfl)), Or.inl (hw _ (List.mem_of_getElem? (i := 99) rfl))⟩, by intro z h; obtain rfl : cm33 = z := Option.some.inj h; exact ⟨(hw _ (List.mem_of_getElem? (i := 101) rfl)), (hw _ (List.mem_of_getElem? (i := 102) rfl)), Or.inl (hw _ (List.mem_of_getElem? (i := 103) rfl))⟩, by intro z h; obtain rfl : cm35 = z := Option.some.inj h; exact ⟨(hw _ (List.mem_of_getElem? (i := 121) rfl)), (hw _ (List.mem_of_getElem? (i := 122) rfl)), Or.inl (hw _ (List.mem_of_getElem? (i := 123) rfl))⟩, by intro z h; obtain rfl : cm39 = z := Option.some.inj h; exact ⟨(hw _ (List.mem_of_getElem? (i := 158) rfl)), (hw _ (List.mem_of_getElem? (i := 159) rfl)), Or.inl (hw _ (List.mem_of_getElem? (i := 160) rfl))⟩, by intro z h; obtain rfl : cm43 = z := Option.some.inj h; exact ⟨(hw _ (List.mem_of_getElem? (i := 133) rfl)), (hw _ (List.mem_of_getElem? (i := 134) rfl)), Or.inl (hw _ (List.mem_of_getElem? (i := 135) rfl))⟩, by intro z h; obtain rfl : cm40 = z := Option.some.inj h; exact ⟨(hw _ (List.mem_of_getElem? (i := 137) rfl)), (hw _ (List.mem_of_getElem? (i := 138) rfl)), Or.inl (hw _ (List.mem_of_getElem? (i := 139) rfl))⟩, by intro z h; obtain rfl : cm41 = z := Option.some.inj h; exact ⟨(hw _ (List.mem_of_getElem? (i := 175) rfl)), (hw _ (List.mem_of_getElem? (i := 176) rfl)), Or.inl (hw _ (List.mem_of_getElem? (i := 177) rfl))⟩, by intro z h; obtain rfl : cm47 = z := Option.some.inj h; exact ⟨(hw _ (List.mem_of_getElem? (i := 183) rfl)), (hw _ (List.mem_of_getElem? (i := 184) rfl)), Or.inl (hw _ (List.mem_of_getElem? (i := 185) rfl))⟩, by intro z h; obtain rfl : cm48 = z := Option.some.inj h; exact ⟨(hw _ (List.mem_of_getElem? (i := 191) rfl)), (hw _ (List.mem_of_getElem? (i := 192) rfl)), Or.inl (hw _ (List.mem_of_getElem? (i := 193) rfl))⟩, by intro z h; obtain rfl : cm44 = z := Option.some.inj h; exact ⟨(hw _ (List.mem_of_getElem? (i := 187) rfl)), (hw _ (List.mem_of_getElem? (i := 188) rfl)), Or.inl (hw _ (List.mem_of_getElem? (i := 189) rfl))⟩, by intro z h; obtain rfl : cm45 = z := Option.some.inj h; exact ⟨(hw _ (List.mem_of_getElem? (i := 195) rfl)), (hw _ (List.mem_of_getElem? (i := 196) rfl)), Or.inl (hw _ (List.mem_of_getElem? (i := 197) rfl))⟩, by intro z h; obtain rfl : cm50 = z := Option.some.inj h; exact ⟨(hw _ (List.mem_of_getElem? (i := 221) rfl)), (hw _ (List.mem_of_getElem? (i := 222) rfl)), Or.inl (hw _ (List.mem_of_getElem? (i := 223) rfl))⟩, by intro z h; obtain rfl : cm46 = z := Option.some.inj h; exact ⟨(hw _ (List.mem_of_getElem? (i := 199) rfl)), (hw _ (List.mem_of_getElem? (i := 200) rfl)), Or.inl (hw _ (List.mem_of_getElem? (i := 201) rfl))⟩, by intro z h; obtain rfl : cm49 = z := Option.some.inj h; exact ⟨(hw _ (List.mem_of_getElem? (i := 203) rfl)), (hw _ (List.mem_of_getElem? (i := 204) rfl)), Or.inl (hw _ (List.mem_of_getElem? (i := 205) rfl))⟩, by intro z h; obtain rfl : cm51 = z := Option.some.inj h; exact ⟨(hw _ (List.mem_of_getElem? (i := 207) rfl)), (hw _ (List.mem_of_getElem? (i := 208) rfl)), Or.inl (hw _ (List.mem_of_getElem? (i := 209) rfl))⟩, trivial⟩),
   (by first | (simp [plainName, overriddenIn]; done) | decide +kernel),
   (by decide),
   (by intro me h; obtain rfl : cm0 = me := Option.some.inj h; rfl)⟩
theorem lkL (Z : State) (a0 : Array Value) (hw : ∀ d ∈ tables_1, d.before a0 Z = true) : LinkL PP QQ Z a0 :=
  ⟨⟨(hw _ (List.mem_of_getElem? (i := 4) rfl)), (hw _ (List.mem_of_getElem? (i := 5) rfl))⟩,
   (by intro me h; obtain rfl : cm0 = me := Option.some.inj h; exact ⟨(hw _ (List.mem_of_getElem? (i := 7) rfl)), (hw _ (List.mem_of_getElem? (i := 8) rfl)), rfl⟩),
   asc_all (⟨by intro z h; obtain rfl : cm10 = z := Option.some.inj h; exact ⟨(hw _ (List.mem_of_getElem? (i := 68) rfl)), (hw _ (List.mem_of_getElem? (i := 69) rfl)), (hw _ (List.mem_of_getElem? (i := 70) rfl)), (hw _ (List.mem_of_getElem? (i := 71) rfl))⟩, by intro z h; obtain rfl : cm11 = z := Option.some.inj h; exact ⟨(hw _ (List.mem_of_getElem? (i := 73) rfl)), (hw _ (List.mem_of_getElem? (i := 74) rfl)), (hw _ (List.mem_of_getElem? (i := 75) rfl)), (hw _ (List.mem_of_getElem? (i := 76) rfl))⟩, by intro z h; obtain rfl : cm9 = z := Option.some.inj h; exact ⟨(hw _ (List.mem_of_getElem? (i := 211) rfl)), (hw _ (List.mem_of_getElem? (i := 212) rfl)), (hw _ (List.mem_of_getElem? (i := 213) rfl)), (hw _ (List.mem_of_getElem? (i := 214) rfl))⟩, by intro z h; obtain rfl : cm2 = z := Option.some.inj h; exact ⟨(hw _ (List.mem_of_getElem? (i := 79) rfl)), (hw _ (List.mem_of_getElem? (i := 80) rfl)), (hw _ (List.mem_of_getElem? (i := 81) rfl)), (hw _ (List.mem_of_getElem? (i := 82) rfl))⟩, by intro z h; obtain rfl : cm3 = z := Option.some.inj h; exact ⟨(hw _ (List.mem_of_getElem? (i := 145) rfl)), (hw _ (List.mem_of_getElem? (i := 146) rfl)), (hw _ (List.mem_of_getElem? (i := 147) rfl)), (hw _ (List.mem_of_getElem? (i := 148) rfl))⟩, by intro z h; obtain rfl : cm4 = z := Option.some.inj h; exact ⟨(hw _ (List.mem_of_getElem? (i := 166) rfl)), (hw _ (List.mem_of_getElem? (i := 167) rfl)), (hw _ (List.mem_of_getElem? (i := 168) rfl)), (hw _ (List.mem_of_getElem? (i := 169) rfl))⟩, trivial⟩),
   asc_all (⟨by intro z h; obtain rfl : lm2 = z := Option.some.inj h; exact ⟨(hw _ (List.mem_of_getElem? (i := 0) rfl)), (hw _ (List.mem_of_getElem? (i := 1) rfl)), (hw _ (List.mem_of_getElem? (i := 2) rfl))⟩, by intro z h; obtain rfl : lm4 = z := Option.some.inj h; exact ⟨(hw _ (List.mem_of_getElem? (i := 65) rfl)), (hw _ (List.mem_of_getElem? (i := 66) rfl)), (hw _ (List.mem_of_getElem? (i := 2) rfl))⟩, by intro z h; obtain rfl : lm3 = z := Option.some.inj h; exact ⟨(hw _ (List.mem_of_getElem? (i := 162) rfl)), (hw _ (List.mem_of_getElem? (i := 163) rfl)), (hw _ (List.mem_of_getElem? (i := 2) rfl))⟩, trivial⟩),
   asc_all (⟨(hw _ (List.mem_of_getElem? (i := 165) rfl)), (hw _ (List.mem_of_getElem? (i := 78) rfl)), (hw _ (List.mem_of_getElem? (i := 227) rfl)), (hw _ (List.mem_of_getElem? (i := 220) rfl)), trivial⟩),
   asc_all (⟨fun h => absurd rfl h, fun _ => ⟨method_2_code, [.array .int, .int], (hw _ (List.mem_of_getElem? (i := 3) rfl)), chk_ok dk_l2, pk_l2, rfl⟩, fun _ => ⟨method_3_code, [.int, .int], (hw _ (List.mem_of_getElem? (i := 164) rfl)), chk_ok dk_l3, pk_l3, rfl⟩, fun _ => ⟨method_4_code, [.object "RandomConsensus", .long, .int], (hw _ (List.mem_of_getElem? (i := 67) rfl)), chk_ok dk_l4, pk_l4, rfl⟩, trivial⟩),
   (by first | (simp [plainName, overriddenIn]; done) | decide +kernel),
   (by decide)⟩
theorem l2r0W0_in (N : Nat) (sg : Nat → Int32) (a1 : Int32)  (Q : Int32 → Wd → Prop) (h : ((a1 < (Int32.ofNat N)) → inb N a1 ∧ Q (sg (ix a1)) W0) ∧ (¬ (a1 < (Int32.ofNat N)) → Q (0 : Int32) W0)) : lalI PP QQ (some (N, sg)) 2 [.ref 0, .int a1] W0 Q := by
  refine lal_of (me := lm2) (ls := [some (.ref 0), some (.int a1)]) rfl (Nat.le_of_ble_eq_true rfl) rfl ?_
  refine wpl_sl (n := 2) (pc' := 2) (ls' := [some (.ref 0), some (.int a1)]) (st' := [.ref 0, .int a1]) rfl ?_
  refine wpl_len rfl ?_
  refine wpl_icmp (a := 12) (b := 6) rfl (by decide) rfl rfl (wpl_br (p := a1 < (Int32.ofNat N)) ⟨fun hc138 => ?_, fun hc138 => ?_⟩)
  · have h139 := h.1 hc138
    refine wpl_sl (n := 2) (pc' := 8) (ls' := [some (.ref 0), some (.int a1)]) (st' := [.int a1, .ref 0]) rfl ?_
    refine wpl_lda rfl h139.1 ?_
    have h141 := h139.2
    refine wpl_sl (n := 1) (pc' := 13) (ls' := [some (.ref 0), some (.int a1)]) (st' := [.int (sg (ix a1))]) rfl ?_
    exact wpl_ret rfl rfl rfl ⟨(sg (ix a1)), rfl, h141⟩
  · have h140 := h.2 hc138
    refine wpl_sl (n := 1) (pc' := 13) (ls' := [some (.ref 0), some (.int a1)]) (st' := [.int (0 : Int32)]) rfl ?_
    exact wpl_ret rfl rfl rfl ⟨(0 : Int32), rfl, h140⟩
theorem c20_in (a1 : Int32) (a2 : Int32) (a3 : Int32) (s : St) (Q : Int32 → St → Prop) (h : ((a1 < a2) → Q a2 s) ∧ (¬ (a1 < a2) → ((a3 < a1) → Q a3 s) ∧ (¬ (a3 < a1) → Q a1 s))) : calI PP 20 11 [.ref 0, .int a1, .int a2, .int a3] s Q := by
  refine cal_of (me := cm20) (ls := [some (.ref 0), some (.int a1), some (.int a2), some (.int a3)]) rfl (Nat.le_of_ble_eq_true rfl) rfl ?_
  refine wpc_sl (n := 2) (c' := 11) (pc' := 2) (ls' := [some (.ref 0), some (.int a1), some (.int a2), some (.int a3)]) (st' := [.int a2, .int a1]) (s' := s) rfl ?_
  refine wpc_icmp (a := 7) (b := 5) rfl (by decide) rfl rfl (wpc_br (p := a1 < a2) ⟨fun hc154 => ?_, fun hc154 => ?_⟩)
  · have h155 := h.1 hc154
    refine wpc_sl (n := 1) (c' := 11) (pc' := 6) (ls' := [some (.ref 0), some (.int a1), some (.int a2), some (.int a3)]) (st' := [.int a2]) (s' := s) rfl ?_
    exact wpc_ret rfl rfl (fun q => absurd q (by decide)) rfl ⟨a2, rfl, h155⟩
  · have h156 := h.2 hc154
    refine wpc_sl (n := 2) (c' := 11) (pc' := 9) (ls' := [some (.ref 0), some (.int a1), some (.int a2), some (.int a3)]) (st' := [.int a3, .int a1]) (s' := s) rfl ?_
    refine wpc_icmp (a := 14) (b := 12) rfl (by decide) rfl rfl (wpc_br (p := a3 < a1) ⟨fun hc157 => ?_, fun hc157 => ?_⟩)
    · have h158 := h156.1 hc157
      refine wpc_sl (n := 1) (c' := 11) (pc' := 13) (ls' := [some (.ref 0), some (.int a1), some (.int a2), some (.int a3)]) (st' := [.int a3]) (s' := s) rfl ?_
      exact wpc_ret rfl rfl (fun q => absurd q (by decide)) rfl ⟨a3, rfl, h158⟩
    · have h159 := h156.2 hc157
      refine wpc_sl (n := 1) (c' := 11) (pc' := 15) (ls' := [some (.ref 0), some (.int a1), some (.int a2), some (.int a3)]) (st' := [.int a1]) (s' := s) rfl ?_
      exact wpc_ret rfl rfl (fun q => absurd q (by decide)) rfl ⟨a1, rfl, h159⟩
theorem c21_in (a1 : Int32) (s : St) (Q : Int32 → St → Prop) (h : ((a1 < (0 : Int32)) → Q (0 : Int32) s) ∧ (¬ (a1 < (0 : Int32)) → ((a1 < (7 : Int32)) → Q (1 : Int32) s) ∧ (¬ (a1 < (7 : Int32)) → Q (0 : Int32) s))) : calI PP 21 11 [.ref 0, .int a1] s Q := by
  refine cal_of (me := cm21) (ls := [some (.ref 0), some (.int a1)]) rfl (Nat.le_of_ble_eq_true rfl) rfl ?_
  refine wpc_sl (n := 1) (c' := 11) (pc' := 1) (ls' := [some (.ref 0), some (.int a1)]) (st' := [.int a1]) (s' := s) rfl ?_
  refine wpc_if (a := 14) (b := 4) rfl (by decide) rfl rfl (wpc_br (p := a1 < (0 : Int32)) ⟨fun hc181 => ?_, fun hc181 => ?_⟩)
  · have h182 := h.1 hc181
    refine wpc_sl (n := 1) (c' := 11) (pc' := 15) (ls' := [some (.ref 0), some (.int a1)]) (st' := [.int (0 : Int32)]) (s' := s) rfl ?_
    exact wpc_ret rfl rfl (fun q => absurd q (by decide)) rfl ⟨(0 : Int32), rfl, h182⟩
  · have h183 := h.2 hc181
    refine wpc_sl (n := 2) (c' := 11) (pc' := 7) (ls' := [some (.ref 0), some (.int a1)]) (st' := [.int (7 : Int32), .int a1]) (s' := s) rfl ?_
    refine wpc_icmp (a := 14) (b := 10) rfl (by decide) rfl rfl (wpc_br (p := a1 < (7 : Int32)) ⟨fun hc184 => ?_, fun hc184 => ?_⟩)
    · have h185 := h183.1 hc184
      refine wpc_sl (n := 2) (c' := 11) (pc' := 15) (ls' := [some (.ref 0), some (.int a1)]) (st' := [.int (1 : Int32)]) (s' := s) rfl ?_
      exact wpc_ret rfl rfl (fun q => absurd q (by decide)) rfl ⟨(1 : Int32), rfl, h185⟩
    · have h186 := h183.2 hc184
      refine wpc_sl (n := 1) (c' := 11) (pc' := 15) (ls' := [some (.ref 0), some (.int a1)]) (st' := [.int (0 : Int32)]) (s' := s) rfl ?_
      exact wpc_ret rfl rfl (fun q => absurd q (by decide)) rfl ⟨(0 : Int32), rfl, h186⟩
theorem c18_in (a1 : Int32) (s : St) (Q : St → Prop) (h : calI PP 21 11 [.ref 0, .int a1] s (fun v167 s166 => ((v167 = (0 : Int32)) → Q s166) ∧ (¬ (v167 = (0 : Int32)) → inb 7 a1 ∧ inb 7 a1 ∧ inb 7 a1 ∧ inb 7 a1 ∧ inb 7 a1 ∧ inb 7 a1 ∧ inb 7 a1 ∧ inb 7 a1 ∧ inb 7 a1 ∧ Q (sI (sL (sI (sI (sI (sI (sI (sI (sI s166 1 (ix a1) (0 : Int32)) 2 (ix a1) (-1 : Int32)) 3 (ix a1) (-1 : Int32)) 4 (ix a1) (0 : Int32)) 5 (ix a1) (0 : Int32)) 6 (ix a1) (-1 : Int32)) 7 (ix a1) (0 : Int32)) 8 (ix a1) (0 : Int64)) 9 (ix a1) (0 : Int32))))) : calV PP 18 11 [.ref 0, .int a1] s Q := by
  refine cal_of (me := cm18) (ls := [some (.ref 0), some (.int a1)]) rfl (Nat.le_of_ble_eq_true rfl) rfl ?_
  refine wpc_sl (n := 2) (c' := 11) (pc' := 2) (ls' := [some (.ref 0), some (.int a1)]) (st' := [.int a1, .ref 0]) (s' := s) rfl ?_
  refine wpc_callI (m' := 21) (me' := cm21) (as := [.int a1]) (r := []) rfl rfl rfl rfl rfl ⟨by decide, (by first | decide | exact Nat.le_of_ble_eq_true rfl), (by first | decide | exact Nat.le_of_ble_eq_true rfl), rfl⟩ (calI.mono h fun v167 s166 h168 => ?_)
  refine wpc_if (a := 9) (b := 8) rfl (by decide) rfl rfl (wpc_br (p := v167 = (0 : Int32)) ⟨fun hc169 => ?_, fun hc169 => ?_⟩)
  · have h170 := h168.1 hc169
    exact wpc_ret rfl rfl (fun q => absurd q (by decide)) rfl ⟨rfl, h170⟩
  · have h171 := h168.2 hc169
    refine wpc_sl (n := 4) (c' := 11) (pc' := 15) (ls' := [some (.ref 0), some (.int a1)]) (st' := [.int (0 : Int32), .int a1, .ref 1]) (s' := s166) rfl ?_
    refine wpc_staI (a := 0) (N := 7) (s' := (sI s166 1 (ix a1) (0 : Int32))) rfl rfl (by decide) h171.1 rfl ?_
    have h172 := h171.2
    refine wpc_sl (n := 4) (c' := 11) (pc' := 22) (ls' := [some (.ref 0), some (.int a1)]) (st' := [.int (-1 : Int32), .int a1, .ref 2]) (s' := (sI s166 1 (ix a1) (0 : Int32))) rfl ?_
    refine wpc_staI (a := 1) (N := 7) (s' := (sI (sI s166 1 (ix a1) (0 : Int32)) 2 (ix a1) (-1 : Int32))) rfl rfl (by decide) h172.1 rfl ?_
    have h173 := h172.2
    refine wpc_sl (n := 4) (c' := 11) (pc' := 29) (ls' := [some (.ref 0), some (.int a1)]) (st' := [.int (-1 : Int32), .int a1, .ref 3]) (s' := (sI (sI s166 1 (ix a1) (0 : Int32)) 2 (ix a1) (-1 : Int32))) rfl ?_
    refine wpc_staI (a := 2) (N := 7) (s' := (sI (sI (sI s166 1 (ix a1) (0 : Int32)) 2 (ix a1) (-1 : Int32)) 3 (ix a1) (-1 : Int32))) rfl rfl (by decide) h173.1 rfl ?_
    have h174 := h173.2
    refine wpc_sl (n := 4) (c' := 11) (pc' := 36) (ls' := [some (.ref 0), some (.int a1)]) (st' := [.int (0 : Int32), .int a1, .ref 4]) (s' := (sI (sI (sI s166 1 (ix a1) (0 : Int32)) 2 (ix a1) (-1 : Int32)) 3 (ix a1) (-1 : Int32))) rfl ?_
    refine wpc_staI (a := 3) (N := 7) (s' := (sI (sI (sI (sI s166 1 (ix a1) (0 : Int32)) 2 (ix a1) (-1 : Int32)) 3 (ix a1) (-1 : Int32)) 4 (ix a1) (0 : Int32))) rfl rfl (by decide) h174.1 rfl ?_
    have h175 := h174.2
    refine wpc_sl (n := 4) (c' := 11) (pc' := 43) (ls' := [some (.ref 0), some (.int a1)]) (st' := [.int (0 : Int32), .int a1, .ref 5]) (s' := (sI (sI (sI (sI s166 1 (ix a1) (0 : Int32)) 2 (ix a1) (-1 : Int32)) 3 (ix a1) (-1 : Int32)) 4 (ix a1) (0 : Int32))) rfl ?_
    refine wpc_staI (a := 4) (N := 7) (s' := (sI (sI (sI (sI (sI s166 1 (ix a1) (0 : Int32)) 2 (ix a1) (-1 : Int32)) 3 (ix a1) (-1 : Int32)) 4 (ix a1) (0 : Int32)) 5 (ix a1) (0 : Int32))) rfl rfl (by decide) h175.1 rfl ?_
    have h176 := h175.2
    refine wpc_sl (n := 4) (c' := 11) (pc' := 50) (ls' := [some (.ref 0), some (.int a1)]) (st' := [.int (-1 : Int32), .int a1, .ref 6]) (s' := (sI (sI (sI (sI (sI s166 1 (ix a1) (0 : Int32)) 2 (ix a1) (-1 : Int32)) 3 (ix a1) (-1 : Int32)) 4 (ix a1) (0 : Int32)) 5 (ix a1) (0 : Int32))) rfl ?_
    refine wpc_staI (a := 5) (N := 7) (s' := (sI (sI (sI (sI (sI (sI s166 1 (ix a1) (0 : Int32)) 2 (ix a1) (-1 : Int32)) 3 (ix a1) (-1 : Int32)) 4 (ix a1) (0 : Int32)) 5 (ix a1) (0 : Int32)) 6 (ix a1) (-1 : Int32))) rfl rfl (by decide) h176.1 rfl ?_
    have h177 := h176.2
    refine wpc_sl (n := 4) (c' := 11) (pc' := 57) (ls' := [some (.ref 0), some (.int a1)]) (st' := [.int (0 : Int32), .int a1, .ref 7]) (s' := (sI (sI (sI (sI (sI (sI s166 1 (ix a1) (0 : Int32)) 2 (ix a1) (-1 : Int32)) 3 (ix a1) (-1 : Int32)) 4 (ix a1) (0 : Int32)) 5 (ix a1) (0 : Int32)) 6 (ix a1) (-1 : Int32))) rfl ?_
    refine wpc_staI (a := 6) (N := 7) (s' := (sI (sI (sI (sI (sI (sI (sI s166 1 (ix a1) (0 : Int32)) 2 (ix a1) (-1 : Int32)) 3 (ix a1) (-1 : Int32)) 4 (ix a1) (0 : Int32)) 5 (ix a1) (0 : Int32)) 6 (ix a1) (-1 : Int32)) 7 (ix a1) (0 : Int32))) rfl rfl (by decide) h177.1 rfl ?_
    have h178 := h177.2
    refine wpc_sl (n := 4) (c' := 11) (pc' := 64) (ls' := [some (.ref 0), some (.int a1)]) (st' := [.long (0 : Int64), .int a1, .ref 8]) (s' := (sI (sI (sI (sI (sI (sI (sI s166 1 (ix a1) (0 : Int32)) 2 (ix a1) (-1 : Int32)) 3 (ix a1) (-1 : Int32)) 4 (ix a1) (0 : Int32)) 5 (ix a1) (0 : Int32)) 6 (ix a1) (-1 : Int32)) 7 (ix a1) (0 : Int32))) rfl ?_
    refine wpc_staJ (a := 7) (N := 7) (s' := (sL (sI (sI (sI (sI (sI (sI (sI s166 1 (ix a1) (0 : Int32)) 2 (ix a1) (-1 : Int32)) 3 (ix a1) (-1 : Int32)) 4 (ix a1) (0 : Int32)) 5 (ix a1) (0 : Int32)) 6 (ix a1) (-1 : Int32)) 7 (ix a1) (0 : Int32)) 8 (ix a1) (0 : Int64))) rfl rfl (by decide) h178.1 rfl ?_
    have h179 := h178.2
    refine wpc_sl (n := 4) (c' := 11) (pc' := 71) (ls' := [some (.ref 0), some (.int a1)]) (st' := [.int (0 : Int32), .int a1, .ref 9]) (s' := (sL (sI (sI (sI (sI (sI (sI (sI s166 1 (ix a1) (0 : Int32)) 2 (ix a1) (-1 : Int32)) 3 (ix a1) (-1 : Int32)) 4 (ix a1) (0 : Int32)) 5 (ix a1) (0 : Int32)) 6 (ix a1) (-1 : Int32)) 7 (ix a1) (0 : Int32)) 8 (ix a1) (0 : Int64))) rfl ?_
    refine wpc_staI (a := 8) (N := 7) (s' := (sI (sL (sI (sI (sI (sI (sI (sI (sI s166 1 (ix a1) (0 : Int32)) 2 (ix a1) (-1 : Int32)) 3 (ix a1) (-1 : Int32)) 4 (ix a1) (0 : Int32)) 5 (ix a1) (0 : Int32)) 6 (ix a1) (-1 : Int32)) 7 (ix a1) (0 : Int32)) 8 (ix a1) (0 : Int64)) 9 (ix a1) (0 : Int32))) rfl rfl (by decide) h179.1 rfl ?_
    have h180 := h179.2
    exact wpc_ret rfl rfl (fun q => absurd q (by decide)) rfl ⟨rfl, h180⟩
theorem c17_in  (s : St) (Q : St → Prop) (h : wpcV PP 17 cm17 11 2 [some (.ref 0), some (.int (0 : Int32))] [] s Q) : calV PP 17 11 [.ref 0] s Q := by
  refine cal_of (me := cm17) (ls := [some (.ref 0), none]) rfl (Nat.le_of_ble_eq_true rfl) rfl ?_
  refine wpc_sl (n := 2) (c' := 11) (pc' := 2) (ls' := [some (.ref 0), some (.int (0 : Int32))]) (st' := []) (s' := s) rfl ?_
  exact h
theorem c17_2 (x1 : Int32) (s : St) (Q : St → Prop) (h : ((x1 < (7 : Int32)) → calV PP 18 11 [.ref 0, .int x1] s (fun s163 => wpcV PP 17 cm17 11 2 [some (.ref 0), some (.int (x1 + (1 : Int32)))] [] s163 Q)) ∧ (¬ (x1 < (7 : Int32)) → Q s)) : wpcV PP 17 cm17 11 2 [some (.ref 0), some (.int x1)] [] s Q := by
  refine wpc_sl (n := 2) (c' := 11) (pc' := 5) (ls' := [some (.ref 0), some (.int x1)]) (st' := [.int (7 : Int32), .int x1]) (s' := s) rfl ?_
  refine wpc_icmp (a := 19) (b := 8) rfl (by decide) rfl rfl (wpc_br (p := x1 < (7 : Int32)) ⟨fun hc160 => ?_, fun hc160 => ?_⟩)
  · have h161 := h.1 hc160
    refine wpc_sl (n := 2) (c' := 11) (pc' := 10) (ls' := [some (.ref 0), some (.int x1)]) (st' := [.int x1, .ref 0]) (s' := s) rfl ?_
    refine wpc_callV (m' := 18) (me' := cm18) (as := [.int x1]) (r := []) rfl rfl rfl rfl rfl ⟨by decide, (by first | decide | exact Nat.le_of_ble_eq_true rfl), (by first | decide | exact Nat.le_of_ble_eq_true rfl), rfl⟩ (calV.mono h161 fun s163 h165 => ?_)
    refine wpc_sl (n := 2) (c' := 11) (pc' := 2) (ls' := [some (.ref 0), some (.int (x1 + (1 : Int32)))]) (st' := []) (s' := s163) rfl ?_
    exact h165
  · have h162 := h.2 hc160
    exact wpc_ret rfl rfl (fun q => absurd q (by decide)) rfl ⟨rfl, h162⟩
theorem c19_in  (s : St) (Q : St → Prop) (h : wpcV PP 19 cm19 11 2 [some (.ref 0), some (.int (0 : Int32))] [] s Q) : calV PP 19 11 [.ref 0] s Q := by
  refine cal_of (me := cm19) (ls := [some (.ref 0), none]) rfl (Nat.le_of_ble_eq_true rfl) rfl ?_
  refine wpc_sl (n := 2) (c' := 11) (pc' := 2) (ls' := [some (.ref 0), some (.int (0 : Int32))]) (st' := []) (s' := s) rfl ?_
  exact h
theorem c19_2 (x1 : Int32) (s : St) (Q : St → Prop) (h : ((x1 < (112 : Int32)) → inb 112 x1 ∧ wpcV PP 19 cm19 11 2 [some (.ref 0), some (.int (x1 + (1 : Int32)))] [] (sI s 10 (ix x1) (-1 : Int32)) Q) ∧ (¬ (x1 < (112 : Int32)) → wpcV PP 19 cm19 11 23 [some (.ref 0), some (.int (0 : Int32))] [] s Q)) : wpcV PP 19 cm19 11 2 [some (.ref 0), some (.int x1)] [] s Q := by
  refine wpc_sl (n := 2) (c' := 11) (pc' := 5) (ls' := [some (.ref 0), some (.int x1)]) (st' := [.int (112 : Int32), .int x1]) (s' := s) rfl ?_
  refine wpc_icmp (a := 21) (b := 8) rfl (by decide) rfl rfl (wpc_br (p := x1 < (112 : Int32)) ⟨fun hc187 => ?_, fun hc187 => ?_⟩)
  · have h188 := h.1 hc187
    refine wpc_sl (n := 4) (c' := 11) (pc' := 14) (ls' := [some (.ref 0), some (.int x1)]) (st' := [.int (-1 : Int32), .int x1, .ref 10]) (s' := s) rfl ?_
    refine wpc_staI (a := 9) (N := 112) (s' := (sI s 10 (ix x1) (-1 : Int32))) rfl rfl (by decide) h188.1 rfl ?_
    have h190 := h188.2
    refine wpc_sl (n := 2) (c' := 11) (pc' := 2) (ls' := [some (.ref 0), some (.int (x1 + (1 : Int32)))]) (st' := []) (s' := (sI s 10 (ix x1) (-1 : Int32))) rfl ?_
    exact h190
  · have h189 := h.2 hc187
    refine wpc_sl (n := 2) (c' := 11) (pc' := 23) (ls' := [some (.ref 0), some (.int (0 : Int32))]) (st' := []) (s' := s) rfl ?_
    exact h189
theorem c19_23 (x1 : Int32) (s : St) (Q : St → Prop) (h : ((x1 < (784 : Int32)) → inb 784 x1 ∧ wpcV PP 19 cm19 11 23 [some (.ref 0), some (.int (x1 + (1 : Int32)))] [] (sI s 11 (ix x1) (0 : Int32)) Q) ∧ (¬ (x1 < (784 : Int32)) → Q s)) : wpcV PP 19 cm19 11 23 [some (.ref 0), some (.int x1)] [] s Q := by
  refine wpc_sl (n := 2) (c' := 11) (pc' := 27) (ls' := [some (.ref 0), some (.int x1)]) (st' := [.int (784 : Int32), .int x1]) (s' := s) rfl ?_
  refine wpc_icmp (a := 43) (b := 30) rfl (by decide) rfl rfl (wpc_br (p := x1 < (784 : Int32)) ⟨fun hc191 => ?_, fun hc191 => ?_⟩)
  · have h192 := h.1 hc191
    refine wpc_sl (n := 4) (c' := 11) (pc' := 36) (ls' := [some (.ref 0), some (.int x1)]) (st' := [.int (0 : Int32), .int x1, .ref 11]) (s' := s) rfl ?_
    refine wpc_staI (a := 10) (N := 784) (s' := (sI s 11 (ix x1) (0 : Int32))) rfl rfl (by decide) h192.1 rfl ?_
    have h194 := h192.2
    refine wpc_sl (n := 2) (c' := 11) (pc' := 23) (ls' := [some (.ref 0), some (.int (x1 + (1 : Int32)))]) (st' := []) (s' := (sI s 11 (ix x1) (0 : Int32))) rfl ?_
    exact h194
  · have h193 := h.2 hc191
    exact wpc_ret rfl rfl (fun q => absurd q (by decide)) rfl ⟨rfl, h193⟩
theorem c0_in (a1 : Int32) (a2 : Int32) (s : St) (Q : St → Prop) (h : calI PP 20 11 [.ref 0, .int a1, .int (0 : Int32), .int (3 : Int32)] s (fun v143 s142 => calI PP 20 11 [.ref 0, .int a2, .int (1 : Int32), .int (8 : Int32)] (sI s142 0 19 v143) (fun v146 s145 => calV PP 17 11 [.ref 0] (sI (sI (sI s145 0 20 v146) 0 21 ((7 : Int32) - (gI s145 0 19))) 0 22 (0 : Int32)) (fun s148 => calV PP 19 11 [.ref 0] s148 (fun s151 => Q s151))))) : calV PP 0 0 [.ref 0, .int a1, .int a2] s Q := by
  refine cal_of (me := cm0) (ls := [some (.ref 0), some (.int a1), some (.int a2)]) rfl (Nat.le_of_ble_eq_true rfl) rfl ?_
  refine wpc_sl (n := 40) (c' := 11) (pc' := 98) (ls' := [some (.ref 0), some (.int a1), some (.int a2)]) (st' := [.int (3 : Int32), .int (0 : Int32), .int a1, .ref 0, .ref 0]) (s' := s) rfl ?_
  refine wpc_callI (m' := 20) (me' := cm20) (as := [.int a1, .int (0 : Int32), .int (3 : Int32)]) (r := [.ref 0]) rfl rfl rfl rfl rfl ⟨by decide, (by first | decide | exact Nat.le_of_ble_eq_true rfl), (by first | decide | exact Nat.le_of_ble_eq_true rfl), rfl⟩ (calI.mono h fun v143 s142 h144 => ?_)
  refine wpc_sl (n := 6) (c' := 11) (pc' := 110) (ls' := [some (.ref 0), some (.int a1), some (.int a2)]) (st' := [.int (8 : Int32), .int (1 : Int32), .int a2, .ref 0, .ref 0]) (s' := (sI s142 0 19 v143)) rfl ?_
  refine wpc_callI (m' := 20) (me' := cm20) (as := [.int a2, .int (1 : Int32), .int (8 : Int32)]) (r := [.ref 0]) rfl rfl rfl rfl rfl ⟨by decide, (by first | decide | exact Nat.le_of_ble_eq_true rfl), (by first | decide | exact Nat.le_of_ble_eq_true rfl), rfl⟩ (calI.mono h144 fun v146 s145 h147 => ?_)
  refine wpc_sl (n := 11) (c' := 11) (pc' := 133) (ls' := [some (.ref 0), some (.int a1), some (.int a2)]) (st' := [.ref 0]) (s' := (sI (sI (sI s145 0 20 v146) 0 21 ((7 : Int32) - (gI s145 0 19))) 0 22 (0 : Int32))) rfl ?_
  refine wpc_callV (m' := 17) (me' := cm17) (as := []) (r := []) rfl rfl rfl rfl rfl ⟨by decide, (by first | decide | exact Nat.le_of_ble_eq_true rfl), (by first | decide | exact Nat.le_of_ble_eq_true rfl), rfl⟩ (calV.mono h147 fun s148 h150 => ?_)
  refine wpc_sl (n := 1) (c' := 11) (pc' := 137) (ls' := [some (.ref 0), some (.int a1), some (.int a2)]) (st' := [.ref 0]) (s' := s148) rfl ?_
  refine wpc_callV (m' := 19) (me' := cm19) (as := []) (r := []) rfl rfl rfl rfl rfl ⟨by decide, (by first | decide | exact Nat.le_of_ble_eq_true rfl), (by first | decide | exact Nat.le_of_ble_eq_true rfl), rfl⟩ (calV.mono h150 fun s151 h153 => ?_)
  exact wpc_ret rfl rfl (fun _ => rfl) rfl ⟨rfl, h153⟩
theorem c10_in (a1 : Int32) (s : St) (Q : Int32 → St → Prop) (h : calI PP 21 11 [.ref 0, .int a1] s (fun v252 s251 => ((v252 = (0 : Int32)) → Q (-1 : Int32) s251) ∧ (¬ (v252 = (0 : Int32)) → inb 7 a1 ∧ Q (gI s251 6 (ix a1)) s251))) : calI PP 10 11 [.ref 0, .int a1] s Q := by
  refine cal_of (me := cm10) (ls := [some (.ref 0), some (.int a1)]) rfl (Nat.le_of_ble_eq_true rfl) rfl ?_
  refine wpc_sl (n := 2) (c' := 11) (pc' := 2) (ls' := [some (.ref 0), some (.int a1)]) (st' := [.int a1, .ref 0]) (s' := s) rfl ?_
  refine wpc_callI (m' := 21) (me' := cm21) (as := [.int a1]) (r := []) rfl rfl rfl rfl rfl ⟨by decide, (by first | decide | exact Nat.le_of_ble_eq_true rfl), (by first | decide | exact Nat.le_of_ble_eq_true rfl), rfl⟩ (calI.mono h fun v252 s251 h253 => ?_)
  refine wpc_if (a := 10) (b := 8) rfl (by decide) rfl rfl (wpc_br (p := v252 = (0 : Int32)) ⟨fun hc254 => ?_, fun hc254 => ?_⟩)
  · have h255 := h253.1 hc254
    refine wpc_sl (n := 1) (c' := 11) (pc' := 9) (ls' := [some (.ref 0), some (.int a1)]) (st' := [.int (-1 : Int32)]) (s' := s251) rfl ?_
    exact wpc_ret rfl rfl (fun q => absurd q (by decide)) rfl ⟨(-1 : Int32), rfl, h255⟩
  · have h256 := h253.2 hc254
    refine wpc_sl (n := 3) (c' := 11) (pc' := 15) (ls' := [some (.ref 0), some (.int a1)]) (st' := [.int a1, .ref 6]) (s' := s251) rfl ?_
    refine wpc_ldaI (a := 5) (N := 7) (v := (gI s251 6 (ix a1))) rfl rfl (by decide) h256.1 rfl ?_
    have h257 := h256.2
    exact wpc_ret rfl rfl (fun q => absurd q (by decide)) rfl ⟨(gI s251 6 (ix a1)), rfl, h257⟩
theorem c11_in (a1 : Int32) (s : St) (Q : Int32 → St → Prop) (h : calI PP 21 11 [.ref 0, .int a1] s (fun v259 s258 => ((v259 = (0 : Int32)) → Q (-1 : Int32) s258) ∧ (¬ (v259 = (0 : Int32)) → inb 7 a1 ∧ Q (gI s258 7 (ix a1)) s258))) : calI PP 11 11 [.ref 0, .int a1] s Q := by
  refine cal_of (me := cm11) (ls := [some (.ref 0), some (.int a1)]) rfl (Nat.le_of_ble_eq_true rfl) rfl ?_
  refine wpc_sl (n := 2) (c' := 11) (pc' := 2) (ls' := [some (.ref 0), some (.int a1)]) (st' := [.int a1, .ref 0]) (s' := s) rfl ?_
  refine wpc_callI (m' := 21) (me' := cm21) (as := [.int a1]) (r := []) rfl rfl rfl rfl rfl ⟨by decide, (by first | decide | exact Nat.le_of_ble_eq_true rfl), (by first | decide | exact Nat.le_of_ble_eq_true rfl), rfl⟩ (calI.mono h fun v259 s258 h260 => ?_)
  refine wpc_if (a := 10) (b := 8) rfl (by decide) rfl rfl (wpc_br (p := v259 = (0 : Int32)) ⟨fun hc261 => ?_, fun hc261 => ?_⟩)
  · have h262 := h260.1 hc261
    refine wpc_sl (n := 1) (c' := 11) (pc' := 9) (ls' := [some (.ref 0), some (.int a1)]) (st' := [.int (-1 : Int32)]) (s' := s258) rfl ?_
    exact wpc_ret rfl rfl (fun q => absurd q (by decide)) rfl ⟨(-1 : Int32), rfl, h262⟩
  · have h263 := h260.2 hc261
    refine wpc_sl (n := 3) (c' := 11) (pc' := 15) (ls' := [some (.ref 0), some (.int a1)]) (st' := [.int a1, .ref 7]) (s' := s258) rfl ?_
    refine wpc_ldaI (a := 6) (N := 7) (v := (gI s258 7 (ix a1))) rfl rfl (by decide) h263.1 rfl ?_
    have h264 := h263.2
    exact wpc_ret rfl rfl (fun q => absurd q (by decide)) rfl ⟨(gI s258 7 (ix a1)), rfl, h264⟩
theorem c27_in (a1 : Int32) (s : St) (Q : Int32 → St → Prop) (h : inb 7 a1 ∧ (((gI s 2 (ix a1)) = (-1 : Int32)) → Q (0 : Int32) s) ∧ (¬ ((gI s 2 (ix a1)) = (-1 : Int32)) → Q (1 : Int32) s)) : calI PP 27 11 [.ref 0, .int a1] s Q := by
  refine cal_of (me := cm27) (ls := [some (.ref 0), some (.int a1)]) rfl (Nat.le_of_ble_eq_true rfl) rfl ?_
  refine wpc_sl (n := 3) (c' := 11) (pc' := 5) (ls' := [some (.ref 0), some (.int a1)]) (st' := [.int a1, .ref 2]) (s' := s) rfl ?_
  refine wpc_ldaI (a := 1) (N := 7) (v := (gI s 2 (ix a1))) rfl rfl (by decide) h.1 rfl ?_
  have h278 := h.2
  refine wpc_sl (n := 1) (c' := 11) (pc' := 7) (ls' := [some (.ref 0), some (.int a1)]) (st' := [.int (-1 : Int32), .int (gI s 2 (ix a1))]) (s' := s) rfl ?_
  refine wpc_icmp (a := 14) (b := 10) rfl (by decide) rfl rfl (wpc_br (p := (gI s 2 (ix a1)) = (-1 : Int32)) ⟨fun hc279 => ?_, fun hc279 => ?_⟩)
  · have h280 := h278.1 hc279
    refine wpc_sl (n := 1) (c' := 11) (pc' := 15) (ls' := [some (.ref 0), some (.int a1)]) (st' := [.int (0 : Int32)]) (s' := s) rfl ?_
    exact wpc_ret rfl rfl (fun q => absurd q (by decide)) rfl ⟨(0 : Int32), rfl, h280⟩
  · have h281 := h278.2 hc279
    refine wpc_sl (n := 2) (c' := 11) (pc' := 15) (ls' := [some (.ref 0), some (.int a1)]) (st' := [.int (1 : Int32)]) (s' := s) rfl ?_
    exact wpc_ret rfl rfl (fun q => absurd q (by decide)) rfl ⟨(1 : Int32), rfl, h281⟩
theorem c9_in (a1 : Int32) (s : St) (Q : Int32 → St → Prop) (h : calI PP 21 11 [.ref 0, .int a1] s (fun v266 s265 => ((v266 = (0 : Int32)) → Q (-1 : Int32) s265) ∧ (¬ (v266 = (0 : Int32)) → calI PP 27 11 [.ref 0, .int a1] s265 (fun v272 s271 => ((v272 = (0 : Int32)) → Q (-1 : Int32) s271) ∧ (¬ (v272 = (0 : Int32)) → inb 7 a1 ∧ Q (gI s271 2 (ix a1)) s271))))) : calI PP 9 11 [.ref 0, .int a1] s Q := by
  refine cal_of (me := cm9) (ls := [some (.ref 0), some (.int a1)]) rfl (Nat.le_of_ble_eq_true rfl) rfl ?_
  refine wpc_sl (n := 2) (c' := 11) (pc' := 2) (ls' := [some (.ref 0), some (.int a1)]) (st' := [.int a1, .ref 0]) (s' := s) rfl ?_
  refine wpc_callI (m' := 21) (me' := cm21) (as := [.int a1]) (r := []) rfl rfl rfl rfl rfl ⟨by decide, (by first | decide | exact Nat.le_of_ble_eq_true rfl), (by first | decide | exact Nat.le_of_ble_eq_true rfl), rfl⟩ (calI.mono h fun v266 s265 h267 => ?_)
  refine wpc_if (a := 10) (b := 8) rfl (by decide) rfl rfl (wpc_br (p := v266 = (0 : Int32)) ⟨fun hc268 => ?_, fun hc268 => ?_⟩)
  · have h269 := h267.1 hc268
    refine wpc_sl (n := 1) (c' := 11) (pc' := 9) (ls' := [some (.ref 0), some (.int a1)]) (st' := [.int (-1 : Int32)]) (s' := s265) rfl ?_
    exact wpc_ret rfl rfl (fun q => absurd q (by decide)) rfl ⟨(-1 : Int32), rfl, h269⟩
  · have h270 := h267.2 hc268
    refine wpc_sl (n := 2) (c' := 11) (pc' := 12) (ls' := [some (.ref 0), some (.int a1)]) (st' := [.int a1, .ref 0]) (s' := s265) rfl ?_
    refine wpc_callI (m' := 27) (me' := cm27) (as := [.int a1]) (r := []) rfl rfl rfl rfl rfl ⟨by decide, (by first | decide | exact Nat.le_of_ble_eq_true rfl), (by first | decide | exact Nat.le_of_ble_eq_true rfl), rfl⟩ (calI.mono h270 fun v272 s271 h273 => ?_)
    refine wpc_if (a := 20) (b := 18) rfl (by decide) rfl rfl (wpc_br (p := v272 = (0 : Int32)) ⟨fun hc274 => ?_, fun hc274 => ?_⟩)
    · have h275 := h273.1 hc274
      refine wpc_sl (n := 1) (c' := 11) (pc' := 19) (ls' := [some (.ref 0), some (.int a1)]) (st' := [.int (-1 : Int32)]) (s' := s271) rfl ?_
      exact wpc_ret rfl rfl (fun q => absurd q (by decide)) rfl ⟨(-1 : Int32), rfl, h275⟩
    · have h276 := h273.2 hc274
      refine wpc_sl (n := 3) (c' := 11) (pc' := 25) (ls' := [some (.ref 0), some (.int a1)]) (st' := [.int a1, .ref 2]) (s' := s271) rfl ?_
      refine wpc_ldaI (a := 1) (N := 7) (v := (gI s271 2 (ix a1))) rfl rfl (by decide) h276.1 rfl ?_
      have h277 := h276.2
      exact wpc_ret rfl rfl (fun q => absurd q (by decide)) rfl ⟨(gI s271 2 (ix a1)), rfl, h277⟩
theorem l4r1W1_in (N : Nat) (sg : Nat → Int32) (a1 : Int64) (a2 : Int32) (s : St) (Q : Int64 → Wd → Prop) (h : wplL PP QQ (some (N, sg)) 4 lm4 6 [some (.ref 1), some (.long a1), none, some (.int a2), some (.int (-1 : Int32)), some (.int (0 : Int32)), none, none, none, none, none, none, none] [] (W1 s) Q) : lalL PP QQ (some (N, sg)) 4 [.ref 1, .long a1, .int a2] (W1 s) Q := by
  refine lal_of (me := lm4) (ls := [some (.ref 1), some (.long a1), none, some (.int a2), none, none, none, none, none, none, none, none, none]) rfl (Nat.le_of_ble_eq_true rfl) rfl ?_
  refine wpl_sl (n := 4) (pc' := 6) (ls' := [some (.ref 1), some (.long a1), none, some (.int a2), some (.int (-1 : Int32)), some (.int (0 : Int32)), none, none, none, none, none, none, none]) (st' := []) rfl ?_
  exact h
theorem l4r1W1_6 (N : Nat) (sg : Nat → Int32) (x1 : Int64) (x3 : Int32) (x4 : Int32) (x5 : Int32) (s : St) (Q : Int64 → Wd → Prop) (h : ((x5 < (7 : Int32)) → calI PP 10 11 [.ref 0, .int x5] s (fun v199 s198 => calI PP 11 11 [.ref 0, .int x5] s198 (fun v202 s201 => ∀ m204, m204 = (if (XT.cmpL (((XT.ushrL x1 ((6 : Int32) * x5)) &&& (63 : Int64)) &&& (1 : Int64)) (0 : Int64)) = (0 : Int32) then (0 : Int32) else (1 : Int32)) → (((v199 = (0 : Int32)) → wplL PP QQ (some (N, sg)) 4 lm4 69 [some (.ref 1), some (.long x1), none, some (.int x3), some (.int x4), some (.int x5), some (.int v199), some (.int v202), some (.long ((XT.ushrL x1 ((6 : Int32) * x5)) &&& (63 : Int64))), none, some (.int m204), none, none] [] (W1 s201) Q) ∧ (¬ (v199 = (0 : Int32)) → ((v199 = (1 : Int32)) → wplL PP QQ (some (N, sg)) 4 lm4 69 [some (.ref 1), some (.long x1), none, some (.int x3), some (.int x4), some (.int x5), some (.int v199), some (.int v202), some (.long ((XT.ushrL x1 ((6 : Int32) * x5)) &&& (63 : Int64))), none, some (.int m204), none, none] [] (W1 s201) Q) ∧ (¬ (v199 = (1 : Int32)) → ((m204 = (0 : Int32)) → wplL PP QQ (some (N, sg)) 4 lm4 223 [some (.ref 1), some (.long x1), none, some (.int x3), some (.int x4), some (.int x5), none, none, none, none, none, none, none] [] (W1 s201) Q) ∧ (¬ (m204 = (0 : Int32)) → Q (-1 : Int64) (W1 s201)))))))) ∧ (¬ (x5 < (7 : Int32)) → Q x1 (W1 s))) : wplL PP QQ (some (N, sg)) 4 lm4 6 [some (.ref 1), some (.long x1), none, some (.int x3), some (.int x4), some (.int x5), none, none, none, none, none, none, none] [] (W1 s) Q := by
  refine wpl_sl (n := 2) (pc' := 10) (ls' := [some (.ref 1), some (.long x1), none, some (.int x3), some (.int x4), some (.int x5), none, none, none, none, none, none, none]) (st' := [.int (7 : Int32), .int x5]) rfl ?_
  refine wpl_icmp (a := 229) (b := 13) rfl (by decide) rfl rfl (wpl_br (p := x5 < (7 : Int32)) ⟨fun hc195 => ?_, fun hc195 => ?_⟩)
  · have h196 := h.1 hc195
    refine wpl_sl (n := 2) (pc' := 16) (ls' := [some (.ref 1), some (.long x1), none, some (.int x3), some (.int x4), some (.int x5), none, none, none, none, none, none, none]) (st' := [.int x5, .ref 1]) rfl ?_
    refine wpl_v1 (m' := 10) (me' := cm10) (as := [.int x5]) (r := []) rfl rfl rfl rfl rfl ⟨by decide, (by first | decide | exact Nat.le_of_ble_eq_true rfl), (by first | decide | exact Nat.le_of_ble_eq_true rfl), rfl⟩ (cal_I (calI.mono h196 fun v199 s198 h200 => ?_))
    refine wpl_sl (n := 3) (pc' := 24) (ls' := [some (.ref 1), some (.long x1), none, some (.int x3), some (.int x4), some (.int x5), some (.int v199), none, none, none, none, none, none]) (st' := [.int x5, .ref 1]) rfl ?_
    refine wpl_v1 (m' := 11) (me' := cm11) (as := [.int x5]) (r := []) rfl rfl rfl rfl rfl ⟨by decide, (by first | decide | exact Nat.le_of_ble_eq_true rfl), (by first | decide | exact Nat.le_of_ble_eq_true rfl), rfl⟩ (cal_I (calI.mono h200 fun v202 s201 h203 => ?_))
    refine wpl_sl (n := 5) (pc' := 35) (ls' := [some (.ref 1), some (.long x1), none, some (.int x3), some (.int x4), some (.int x5), some (.int v199), some (.int v202), none, none, none, none, none]) (st' := [.int ((6 : Int32) * x5), .long x1]) rfl ?_
    refine wpl_sl (n := 5) (pc' := 44) (ls' := [some (.ref 1), some (.long x1), none, some (.int x3), some (.int x4), some (.int x5), some (.int v199), some (.int v202), some (.long ((XT.ushrL x1 ((6 : Int32) * x5)) &&& (63 : Int64))), none, none, none, none]) (st' := [.long ((XT.ushrL x1 ((6 : Int32) * x5)) &&& (63 : Int64))]) rfl ?_
    refine wpl_sl (n := 4) (pc' := 48) (ls' := [some (.ref 1), some (.long x1), none, some (.int x3), some (.int x4), some (.int x5), some (.int v199), some (.int v202), some (.long ((XT.ushrL x1 ((6 : Int32) * x5)) &&& (63 : Int64))), none, none, none, none]) (st' := [.int (XT.cmpL (((XT.ushrL x1 ((6 : Int32) * x5)) &&& (63 : Int64)) &&& (1 : Int64)) (0 : Int64))]) rfl ?_
    have hm205 : ∀ m204, m204 = (if (XT.cmpL (((XT.ushrL x1 ((6 : Int32) * x5)) &&& (63 : Int64)) &&& (1 : Int64)) (0 : Int64)) = (0 : Int32) then (0 : Int32) else (1 : Int32)) → wplL PP QQ (some (N, sg)) 4 lm4 56 [some (.ref 1), some (.long x1), none, some (.int x3), some (.int x4), some (.int x5), some (.int v199), some (.int v202), some (.long ((XT.ushrL x1 ((6 : Int32) * x5)) &&& (63 : Int64))), none, none, none, none] [.int m204] (W1 s201) Q := by
      intro m204 em204
      have h206 := h203 m204 em204
      refine wpl_sl (n := 2) (pc' := 60) (ls' := [some (.ref 1), some (.long x1), none, some (.int x3), some (.int x4), some (.int x5), some (.int v199), some (.int v202), some (.long ((XT.ushrL x1 ((6 : Int32) * x5)) &&& (63 : Int64))), none, some (.int m204), none, none]) (st' := [.int v199]) rfl ?_
      refine wpl_if (a := 69) (b := 63) rfl (by decide) rfl rfl (wpl_br (p := v199 = (0 : Int32)) ⟨fun hc207 => ?_, fun hc207 => ?_⟩)
      · have h208 := h206.1 hc207
        exact h208
      · have h209 := h206.2 hc207
        refine wpl_sl (n := 2) (pc' := 66) (ls' := [some (.ref 1), some (.long x1), none, some (.int x3), some (.int x4), some (.int x5), some (.int v199), some (.int v202), some (.long ((XT.ushrL x1 ((6 : Int32) * x5)) &&& (63 : Int64))), none, some (.int m204), none, none]) (st' := [.int (1 : Int32), .int v199]) rfl ?_
        refine wpl_icmp (a := 214) (b := 69) rfl (by decide) rfl rfl (wpl_br (p := v199 = (1 : Int32)) ⟨fun hc210 => ?_, fun hc210 => ?_⟩)
        · have h211 := h209.1 hc210
          exact h211
        · have h212 := h209.2 hc210
          refine wpl_sl (n := 1) (pc' := 216) (ls' := [some (.ref 1), some (.long x1), none, some (.int x3), some (.int x4), some (.int x5), some (.int v199), some (.int v202), some (.long ((XT.ushrL x1 ((6 : Int32) * x5)) &&& (63 : Int64))), none, some (.int m204), none, none]) (st' := [.int m204]) rfl ?_
          refine wpl_if (a := 223) (b := 219) rfl (by decide) rfl rfl (wpl_br (p := m204 = (0 : Int32)) ⟨fun hc213 => ?_, fun hc213 => ?_⟩)
          · have h214 := h212.1 hc213
            exact wpl_lle (ls := [some (.ref 1), some (.long x1), none, some (.int x3), some (.int x4), some (.int x5), none, none, none, none, none, none, none]) ⟨rfl, rfl, rfl, rfl, rfl, trivial⟩ h214
          · have h215 := h212.2 hc213
            refine wpl_sl (n := 1) (pc' := 222) (ls' := [some (.ref 1), some (.long x1), none, some (.int x3), some (.int x4), some (.int x5), some (.int v199), some (.int v202), some (.long ((XT.ushrL x1 ((6 : Int32) * x5)) &&& (63 : Int64))), none, some (.int m204), none, none]) (st' := [.long (-1 : Int64)]) rfl ?_
            exact wpl_ret rfl rfl rfl ⟨(-1 : Int64), rfl, h215⟩
    refine wpl_if (a := 55) (b := 51) rfl (by decide) rfl rfl (wpl_br (p := (XT.cmpL (((XT.ushrL x1 ((6 : Int32) * x5)) &&& (63 : Int64)) &&& (1 : Int64)) (0 : Int64)) = (0 : Int32)) ⟨fun hc216 => ?_, fun hc216 => ?_⟩)
    · refine wpl_sl (n := 1) (pc' := 56) (ls' := [some (.ref 1), some (.long x1), none, some (.int x3), some (.int x4), some (.int x5), some (.int v199), some (.int v202), some (.long ((XT.ushrL x1 ((6 : Int32) * x5)) &&& (63 : Int64))), none, none, none, none]) (st' := [.int (0 : Int32)]) rfl ?_
      first | exact hm205 _ (by simp only [if_pos hc216]) | exact wpl_lle (by repeat (first | exact trivial | refine ⟨rfl, ?_⟩)) (hm205 _ (by simp only [if_pos hc216]))
    · refine wpl_sl (n := 2) (pc' := 56) (ls' := [some (.ref 1), some (.long x1), none, some (.int x3), some (.int x4), some (.int x5), some (.int v199), some (.int v202), some (.long ((XT.ushrL x1 ((6 : Int32) * x5)) &&& (63 : Int64))), none, none, none, none]) (st' := [.int (1 : Int32)]) rfl ?_
      first | exact hm205 _ (by simp only [if_neg hc216]) | exact wpl_lle (by repeat (first | exact trivial | refine ⟨rfl, ?_⟩)) (hm205 _ (by simp only [if_neg hc216]))
  · have h197 := h.2 hc195
    refine wpl_sl (n := 1) (pc' := 230) (ls' := [some (.ref 1), some (.long x1), none, some (.int x3), some (.int x4), some (.int x5), none, none, none, none, none, none, none]) (st' := [.long x1]) rfl ?_
    exact wpl_ret rfl rfl rfl ⟨x1, rfl, h197⟩
theorem l4r1W1_69 (N : Nat) (sg : Nat → Int32) (x1 : Int64) (x3 : Int32) (x4 : Int32) (x5 : Int32) (x6 : Int32) (x7 : Int32) (x8 : Int64) (x10 : Int32) (s : St) (Q : Int64 → Wd → Prop) (h : ((x4 = (-1 : Int32)) → wplL PP QQ (some (N, sg)) 4 lm4 93 [some (.ref 1), some (.long x1), none, some (.int x3), some (.int x6), some (.int x5), some (.int x6), some (.int x7), some (.long x8), none, some (.int x10), none, none] [] (W1 s) Q) ∧ (¬ (x4 = (-1 : Int32)) → ((x4 = x6) → wplL PP QQ (some (N, sg)) 4 lm4 93 [some (.ref 1), some (.long x1), none, some (.int x3), some (.int x4), some (.int x5), some (.int x6), some (.int x7), some (.long x8), none, some (.int x10), none, none] [] (W1 s) Q) ∧ (¬ (x4 = x6) → Q (-1 : Int64) (W1 s)))) : wplL PP QQ (some (N, sg)) 4 lm4 69 [some (.ref 1), some (.long x1), none, some (.int x3), some (.int x4), some (.int x5), some (.int x6), some (.int x7), some (.long x8), none, some (.int x10), none, none] [] (W1 s) Q := by
  refine wpl_sl (n := 2) (pc' := 72) (ls' := [some (.ref 1), some (.long x1), none, some (.int x3), some (.int x4), some (.int x5), some (.int x6), some (.int x7), some (.long x8), none, some (.int x10), none, none]) (st' := [.int (-1 : Int32), .int x4]) rfl ?_
  refine wpl_icmp (a := 82) (b := 75) rfl (by decide) rfl rfl (wpl_br (p := x4 = (-1 : Int32)) ⟨fun hc217 => ?_, fun hc217 => ?_⟩)
  · have h218 := h.1 hc217
    refine wpl_sl (n := 3) (pc' := 93) (ls' := [some (.ref 1), some (.long x1), none, some (.int x3), some (.int x6), some (.int x5), some (.int x6), some (.int x7), some (.long x8), none, some (.int x10), none, none]) (st' := []) rfl ?_
    exact h218
  · have h219 := h.2 hc217
    refine wpl_sl (n := 2) (pc' := 86) (ls' := [some (.ref 1), some (.long x1), none, some (.int x3), some (.int x4), some (.int x5), some (.int x6), some (.int x7), some (.long x8), none, some (.int x10), none, none]) (st' := [.int x6, .int x4]) rfl ?_
    refine wpl_icmp (a := 93) (b := 89) rfl (by decide) rfl rfl (wpl_br (p := x4 = x6) ⟨fun hc220 => ?_, fun hc220 => ?_⟩)
    · have h221 := h219.1 hc220
      exact h221
    · have h222 := h219.2 hc220
      refine wpl_sl (n := 1) (pc' := 92) (ls' := [some (.ref 1), some (.long x1), none, some (.int x3), some (.int x4), some (.int x5), some (.int x6), some (.int x7), some (.long x8), none, some (.int x10), none, none]) (st' := [.long (-1 : Int64)]) rfl ?_
      exact wpl_ret rfl rfl rfl ⟨(-1 : Int64), rfl, h222⟩
theorem l4r1W1_223 (N : Nat) (sg : Nat → Int32) (x1 : Int64) (x3 : Int32) (x4 : Int32) (x5 : Int32) (s : St) (Q : Int64 → Wd → Prop) (h : wplL PP QQ (some (N, sg)) 4 lm4 6 [some (.ref 1), some (.long x1), none, some (.int x3), some (.int x4), some (.int (x5 + (1 : Int32))), none, none, none, none, none, none, none] [] (W1 s) Q) : wplL PP QQ (some (N, sg)) 4 lm4 223 [some (.ref 1), some (.long x1), none, some (.int x3), some (.int x4), some (.int x5), none, none, none, none, none, none, none] [] (W1 s) Q := by
  refine wpl_sl (n := 2) (pc' := 6) (ls' := [some (.ref 1), some (.long x1), none, some (.int x3), some (.int x4), some (.int (x5 + (1 : Int32))), none, none, none, none, none, none, none]) (st' := []) rfl ?_
  exact h
theorem l4r1W1_93 (N : Nat) (sg : Nat → Int32) (x1 : Int64) (x3 : Int32) (x4 : Int32) (x5 : Int32) (x6 : Int32) (x7 : Int32) (x8 : Int64) (x10 : Int32) (s : St) (Q : Int64 → Wd → Prop) (h : wplL PP QQ (some (N, sg)) 4 lm4 99 [some (.ref 1), some (.long x1), none, some (.int x3), some (.int x4), some (.int x5), some (.int x6), some (.int x7), some (.long x8), none, some (.int x10), some (.int (0 : Int32)), some (.int (0 : Int32))] [] (W1 s) Q) : wplL PP QQ (some (N, sg)) 4 lm4 93 [some (.ref 1), some (.long x1), none, some (.int x3), some (.int x4), some (.int x5), some (.int x6), some (.int x7), some (.long x8), none, some (.int x10), none, none] [] (W1 s) Q := by
  refine wpl_sl (n := 4) (pc' := 99) (ls' := [some (.ref 1), some (.long x1), none, some (.int x3), some (.int x4), some (.int x5), some (.int x6), some (.int x7), some (.long x8), none, some (.int x10), some (.int (0 : Int32)), some (.int (0 : Int32))]) (st' := []) rfl ?_
  exact h
theorem l4r1W1_99 (N : Nat) (sg : Nat → Int32) (x1 : Int64) (x3 : Int32) (x4 : Int32) (x5 : Int32) (x6 : Int32) (x7 : Int32) (x8 : Int64) (x10 : Int32) (x11 : Int32) (x12 : Int32) (s : St) (Q : Int64 → Wd → Prop) (h : ((x12 < (7 : Int32)) → calI PP 9 11 [.ref 0, .int x12] s (fun v227 s226 => ∀ m229, m229 = (if v227 = x6 then (1 : Int32) else x11) → (wplL PP QQ (some (N, sg)) 4 lm4 99 [some (.ref 1), some (.long x1), none, some (.int x3), some (.int x4), some (.int x5), some (.int x6), some (.int x7), some (.long x8), none, some (.int x10), some (.int m229), some (.int (x12 + (1 : Int32)))] [] (W1 s226) Q))) ∧ (¬ (x12 < (7 : Int32)) → ((x11 = (0 : Int32)) → Q (-1 : Int64) (W1 s)) ∧ (¬ (x11 = (0 : Int32)) → ((x7 < (1 : Int32)) → Q (-1 : Int64) (W1 s)) ∧ (¬ (x7 < (1 : Int32)) → ((x3 < x7) → Q (-1 : Int64) (W1 s)) ∧ (¬ (x3 < x7) → ((x10 = (0 : Int32)) → wplL PP QQ (some (N, sg)) 4 lm4 211 [some (.ref 1), some (.long (x1 ||| ((Int32.toInt64 (((1 : Int32) ||| (x6 <<< ((1 : Int32) &&& 31))) ||| (x7 <<< ((2 : Int32) &&& 31)))) <<< ((((6 : Int32) * x5)).toInt64 &&& 63)))), none, some (.int x3), some (.int x4), some (.int x5), none, none, none, none, none, none, none] [] (W1 s) Q) ∧ (¬ (x10 = (0 : Int32)) → (((Int64.toInt32 ((XT.ushrL x8 (1 : Int32)) &&& (1 : Int64))) = x6) → (((Int64.toInt32 ((XT.ushrL x8 (2 : Int32)) &&& (15 : Int64))) = x7) → wplL PP QQ (some (N, sg)) 4 lm4 211 [some (.ref 1), some (.long x1), none, some (.int x3), some (.int x4), some (.int x5), none, none, none, none, none, none, none] [] (W1 s) Q) ∧ (¬ ((Int64.toInt32 ((XT.ushrL x8 (2 : Int32)) &&& (15 : Int64))) = x7) → Q (-1 : Int64) (W1 s))) ∧ (¬ ((Int64.toInt32 ((XT.ushrL x8 (1 : Int32)) &&& (1 : Int64))) = x6) → Q (-1 : Int64) (W1 s)))))))) : wplL PP QQ (some (N, sg)) 4 lm4 99 [some (.ref 1), some (.long x1), none, some (.int x3), some (.int x4), some (.int x5), some (.int x6), some (.int x7), some (.long x8), none, some (.int x10), some (.int x11), some (.int x12)] [] (W1 s) Q := by
  refine wpl_sl (n := 2) (pc' := 103) (ls' := [some (.ref 1), some (.long x1), none, some (.int x3), some (.int x4), some (.int x5), some (.int x6), some (.int x7), some (.long x8), none, some (.int x10), some (.int x11), some (.int x12)]) (st' := [.int (7 : Int32), .int x12]) rfl ?_
  refine wpl_icmp (a := 126) (b := 106) rfl (by decide) rfl rfl (wpl_br (p := x12 < (7 : Int32)) ⟨fun hc223 => ?_, fun hc223 => ?_⟩)
  · have h224 := h.1 hc223
    refine wpl_sl (n := 2) (pc' := 109) (ls' := [some (.ref 1), some (.long x1), none, some (.int x3), some (.int x4), some (.int x5), some (.int x6), some (.int x7), some (.long x8), none, some (.int x10), some (.int x11), some (.int x12)]) (st' := [.int x12, .ref 1]) rfl ?_
    refine wpl_v1 (m' := 9) (me' := cm9) (as := [.int x12]) (r := []) rfl rfl rfl rfl rfl ⟨by decide, (by first | decide | exact Nat.le_of_ble_eq_true rfl), (by first | decide | exact Nat.le_of_ble_eq_true rfl), rfl⟩ (cal_I (calI.mono h224 fun v227 s226 h228 => ?_))
    refine wpl_sl (n := 1) (pc' := 114) (ls' := [some (.ref 1), some (.long x1), none, some (.int x3), some (.int x4), some (.int x5), some (.int x6), some (.int x7), some (.long x8), none, some (.int x10), some (.int x11), some (.int x12)]) (st' := [.int x6, .int v227]) rfl ?_
    have hm230 : ∀ m229, m229 = (if v227 = x6 then (1 : Int32) else x11) → wplL PP QQ (some (N, sg)) 4 lm4 120 [some (.ref 1), some (.long x1), none, some (.int x3), some (.int x4), some (.int x5), some (.int x6), some (.int x7), some (.long x8), none, some (.int x10), some (.int m229), some (.int x12)] [] (W1 s226) Q := by
      intro m229 em229
      have h231 := h228 m229 em229
      refine wpl_sl (n := 2) (pc' := 99) (ls' := [some (.ref 1), some (.long x1), none, some (.int x3), some (.int x4), some (.int x5), some (.int x6), some (.int x7), some (.long x8), none, some (.int x10), some (.int m229), some (.int (x12 + (1 : Int32)))]) (st' := []) rfl ?_
      exact h231
    refine wpl_icmp (a := 120) (b := 117) rfl (by decide) rfl rfl (wpl_br (p := v227 = x6) ⟨fun hc232 => ?_, fun hc232 => ?_⟩)
    · refine wpl_sl (n := 2) (pc' := 120) (ls' := [some (.ref 1), some (.long x1), none, some (.int x3), some (.int x4), some (.int x5), some (.int x6), some (.int x7), some (.long x8), none, some (.int x10), some (.int (1 : Int32)), some (.int x12)]) (st' := []) rfl ?_
      first | exact hm230 _ (by simp only [if_pos hc232]) | exact wpl_lle (by repeat (first | exact trivial | refine ⟨rfl, ?_⟩)) (hm230 _ (by simp only [if_pos hc232]))
    · first | exact hm230 _ (by simp only [if_neg hc232]) | exact wpl_lle (by repeat (first | exact trivial | refine ⟨rfl, ?_⟩)) (hm230 _ (by simp only [if_neg hc232]))
  · have h225 := h.2 hc223
    refine wpl_sl (n := 1) (pc' := 128) (ls' := [some (.ref 1), some (.long x1), none, some (.int x3), some (.int x4), some (.int x5), some (.int x6), some (.int x7), some (.long x8), none, some (.int x10), some (.int x11), some (.int x12)]) (st' := [.int x11]) rfl ?_
    refine wpl_if (a := 135) (b := 131) rfl (by decide) rfl rfl (wpl_br (p := x11 = (0 : Int32)) ⟨fun hc233 => ?_, fun hc233 => ?_⟩)
    · have h234 := h225.1 hc233
      refine wpl_sl (n := 1) (pc' := 134) (ls' := [some (.ref 1), some (.long x1), none, some (.int x3), some (.int x4), some (.int x5), some (.int x6), some (.int x7), some (.long x8), none, some (.int x10), some (.int x11), some (.int x12)]) (st' := [.long (-1 : Int64)]) rfl ?_
      exact wpl_ret rfl rfl rfl ⟨(-1 : Int64), rfl, h234⟩
    · have h235 := h225.2 hc233
      refine wpl_sl (n := 2) (pc' := 138) (ls' := [some (.ref 1), some (.long x1), none, some (.int x3), some (.int x4), some (.int x5), some (.int x6), some (.int x7), some (.long x8), none, some (.int x10), some (.int x11), some (.int x12)]) (st' := [.int (1 : Int32), .int x7]) rfl ?_
      refine wpl_icmp (a := 147) (b := 141) rfl (by decide) rfl rfl (wpl_br (p := x7 < (1 : Int32)) ⟨fun hc236 => ?_, fun hc236 => ?_⟩)
      · have h237 := h235.1 hc236
        refine wpl_sl (n := 1) (pc' := 150) (ls' := [some (.ref 1), some (.long x1), none, some (.int x3), some (.int x4), some (.int x5), some (.int x6), some (.int x7), some (.long x8), none, some (.int x10), some (.int x11), some (.int x12)]) (st' := [.long (-1 : Int64)]) rfl ?_
        exact wpl_ret rfl rfl rfl ⟨(-1 : Int64), rfl, h237⟩
      · have h238 := h235.2 hc236
        refine wpl_sl (n := 2) (pc' := 144) (ls' := [some (.ref 1), some (.long x1), none, some (.int x3), some (.int x4), some (.int x5), some (.int x6), some (.int x7), some (.long x8), none, some (.int x10), some (.int x11), some (.int x12)]) (st' := [.int x3, .int x7]) rfl ?_
        refine wpl_icmp (a := 151) (b := 147) rfl (by decide) rfl rfl (wpl_br (p := x3 < x7) ⟨fun hc239 => ?_, fun hc239 => ?_⟩)
        · have h240 := h238.1 hc239
          refine wpl_sl (n := 1) (pc' := 150) (ls' := [some (.ref 1), some (.long x1), none, some (.int x3), some (.int x4), some (.int x5), some (.int x6), some (.int x7), some (.long x8), none, some (.int x10), some (.int x11), some (.int x12)]) (st' := [.long (-1 : Int64)]) rfl ?_
          exact wpl_ret rfl rfl rfl ⟨(-1 : Int64), rfl, h240⟩
        · have h241 := h238.2 hc239
          refine wpl_sl (n := 1) (pc' := 153) (ls' := [some (.ref 1), some (.long x1), none, some (.int x3), some (.int x4), some (.int x5), some (.int x6), some (.int x7), some (.long x8), none, some (.int x10), some (.int x11), some (.int x12)]) (st' := [.int x10]) rfl ?_
          refine wpl_if (a := 190) (b := 156) rfl (by decide) rfl rfl (wpl_br (p := x10 = (0 : Int32)) ⟨fun hc242 => ?_, fun hc242 => ?_⟩)
          · have h243 := h241.1 hc242
            refine wpl_sl (n := 5) (pc' := 196) (ls' := [some (.ref 1), some (.long x1), none, some (.int x3), some (.int x4), some (.int x5), some (.int x6), some (.int x7), some (.long x8), none, some (.int x10), some (.int x11), some (.int x12)]) (st' := [.int (x6 <<< ((1 : Int32) &&& 31)), .int (1 : Int32), .long x1]) rfl ?_
            refine wpl_sl (n := 5) (pc' := 202) (ls' := [some (.ref 1), some (.long x1), none, some (.int x3), some (.int x4), some (.int x5), some (.int x6), some (.int x7), some (.long x8), none, some (.int x10), some (.int x11), some (.int x12)]) (st' := [.int (((1 : Int32) ||| (x6 <<< ((1 : Int32) &&& 31))) ||| (x7 <<< ((2 : Int32) &&& 31))), .long x1]) rfl ?_
            refine wpl_sl (n := 5) (pc' := 209) (ls' := [some (.ref 1), some (.long x1), none, some (.int x3), some (.int x4), some (.int x5), some (.int x6), some (.int x7), some (.long x8), none, some (.int x10), some (.int x11), some (.int x12)]) (st' := [.long ((Int32.toInt64 (((1 : Int32) ||| (x6 <<< ((1 : Int32) &&& 31))) ||| (x7 <<< ((2 : Int32) &&& 31)))) <<< ((((6 : Int32) * x5)).toInt64 &&& 63)), .long x1]) rfl ?_
            refine wpl_sl (n := 2) (pc' := 211) (ls' := [some (.ref 1), some (.long (x1 ||| ((Int32.toInt64 (((1 : Int32) ||| (x6 <<< ((1 : Int32) &&& 31))) ||| (x7 <<< ((2 : Int32) &&& 31)))) <<< ((((6 : Int32) * x5)).toInt64 &&& 63)))), none, some (.int x3), some (.int x4), some (.int x5), some (.int x6), some (.int x7), some (.long x8), none, some (.int x10), some (.int x11), some (.int x12)]) (st' := []) rfl ?_
            exact wpl_lle (ls := [some (.ref 1), some (.long (x1 ||| ((Int32.toInt64 (((1 : Int32) ||| (x6 <<< ((1 : Int32) &&& 31))) ||| (x7 <<< ((2 : Int32) &&& 31)))) <<< ((((6 : Int32) * x5)).toInt64 &&& 63)))), none, some (.int x3), some (.int x4), some (.int x5), none, none, none, none, none, none, none]) ⟨rfl, rfl, rfl, rfl, rfl, trivial⟩ h243
          · have h244 := h241.2 hc242
            refine wpl_sl (n := 7) (pc' := 165) (ls' := [some (.ref 1), some (.long x1), none, some (.int x3), some (.int x4), some (.int x5), some (.int x6), some (.int x7), some (.long x8), none, some (.int x10), some (.int x11), some (.int x12)]) (st' := [.int x6, .int (Int64.toInt32 ((XT.ushrL x8 (1 : Int32)) &&& (1 : Int64)))]) rfl ?_
            refine wpl_icmp (a := 172) (b := 168) rfl (by decide) rfl rfl (wpl_br (p := (Int64.toInt32 ((XT.ushrL x8 (1 : Int32)) &&& (1 : Int64))) = x6) ⟨fun hc245 => ?_, fun hc245 => ?_⟩)
            · have h246 := h244.1 hc245
              refine wpl_sl (n := 7) (pc' := 183) (ls' := [some (.ref 1), some (.long x1), none, some (.int x3), some (.int x4), some (.int x5), some (.int x6), some (.int x7), some (.long x8), none, some (.int x10), some (.int x11), some (.int x12)]) (st' := [.int x7, .int (Int64.toInt32 ((XT.ushrL x8 (2 : Int32)) &&& (15 : Int64)))]) rfl ?_
              refine wpl_icmp (a := 211) (b := 186) rfl (by decide) rfl rfl (wpl_br (p := (Int64.toInt32 ((XT.ushrL x8 (2 : Int32)) &&& (15 : Int64))) = x7) ⟨fun hc248 => ?_, fun hc248 => ?_⟩)
              · have h249 := h246.1 hc248
                exact wpl_lle (ls := [some (.ref 1), some (.long x1), none, some (.int x3), some (.int x4), some (.int x5), none, none, none, none, none, none, none]) ⟨rfl, rfl, rfl, rfl, rfl, trivial⟩ h249
              · have h250 := h246.2 hc248
                refine wpl_sl (n := 1) (pc' := 189) (ls' := [some (.ref 1), some (.long x1), none, some (.int x3), some (.int x4), some (.int x5), some (.int x6), some (.int x7), some (.long x8), none, some (.int x10), some (.int x11), some (.int x12)]) (st' := [.long (-1 : Int64)]) rfl ?_
                exact wpl_ret rfl rfl rfl ⟨(-1 : Int64), rfl, h250⟩
            · have h247 := h244.2 hc245
              refine wpl_sl (n := 1) (pc' := 171) (ls' := [some (.ref 1), some (.long x1), none, some (.int x3), some (.int x4), some (.int x5), some (.int x6), some (.int x7), some (.long x8), none, some (.int x10), some (.int x11), some (.int x12)]) (st' := [.long (-1 : Int64)]) rfl ?_
              exact wpl_ret rfl rfl rfl ⟨(-1 : Int64), rfl, h247⟩
theorem l4r1W1_211 (N : Nat) (sg : Nat → Int32) (x1 : Int64) (x3 : Int32) (x4 : Int32) (x5 : Int32) (s : St) (Q : Int64 → Wd → Prop) (h : wplL PP QQ (some (N, sg)) 4 lm4 223 [some (.ref 1), some (.long x1), none, some (.int x3), some (.int x4), some (.int x5), none, none, none, none, none, none, none] [] (W1 s) Q) : wplL PP QQ (some (N, sg)) 4 lm4 211 [some (.ref 1), some (.long x1), none, some (.int x3), some (.int x4), some (.int x5), none, none, none, none, none, none, none] [] (W1 s) Q := by
  refine wpl_sl (n := 1) (pc' := 223) (ls' := [some (.ref 1), some (.long x1), none, some (.int x3), some (.int x4), some (.int x5), none, none, none, none, none, none, none]) (st' := []) rfl ?_
  exact h
theorem l2r0W1_in (N : Nat) (sg : Nat → Int32) (a1 : Int32) (s : St) (Q : Int32 → Wd → Prop) (h : ((a1 < (Int32.ofNat N)) → inb N a1 ∧ Q (sg (ix a1)) (W1 s)) ∧ (¬ (a1 < (Int32.ofNat N)) → Q (0 : Int32) (W1 s))) : lalI PP QQ (some (N, sg)) 2 [.ref 0, .int a1] (W1 s) Q := by
  refine lal_of (me := lm2) (ls := [some (.ref 0), some (.int a1)]) rfl (Nat.le_of_ble_eq_true rfl) rfl ?_
  refine wpl_sl (n := 2) (pc' := 2) (ls' := [some (.ref 0), some (.int a1)]) (st' := [.ref 0, .int a1]) rfl ?_
  refine wpl_len rfl ?_
  refine wpl_icmp (a := 12) (b := 6) rfl (by decide) rfl rfl (wpl_br (p := a1 < (Int32.ofNat N)) ⟨fun hc282 => ?_, fun hc282 => ?_⟩)
  · have h283 := h.1 hc282
    refine wpl_sl (n := 2) (pc' := 8) (ls' := [some (.ref 0), some (.int a1)]) (st' := [.int a1, .ref 0]) rfl ?_
    refine wpl_lda rfl h283.1 ?_
    have h285 := h283.2
    refine wpl_sl (n := 1) (pc' := 13) (ls' := [some (.ref 0), some (.int a1)]) (st' := [.int (sg (ix a1))]) rfl ?_
    exact wpl_ret rfl rfl rfl ⟨(sg (ix a1)), rfl, h285⟩
  · have h284 := h.2 hc282
    refine wpl_sl (n := 1) (pc' := 13) (ls' := [some (.ref 0), some (.int a1)]) (st' := [.int (0 : Int32)]) rfl ?_
    exact wpl_ret rfl rfl rfl ⟨(0 : Int32), rfl, h284⟩
theorem c24_in (a1 : Int32) (s : St) (Q : Int32 → St → Prop) (h : ((a1 = (0 : Int32)) → Q (1 : Int32) s) ∧ (¬ (a1 = (0 : Int32)) → ((a1 = (1 : Int32)) → Q (1 : Int32) s) ∧ (¬ (a1 = (1 : Int32)) → Q (0 : Int32) s))) : calI PP 24 11 [.ref 0, .int a1] s Q := by
  refine cal_of (me := cm24) (ls := [some (.ref 0), some (.int a1)]) rfl (Nat.le_of_ble_eq_true rfl) rfl ?_
  refine wpc_sl (n := 1) (c' := 11) (pc' := 1) (ls' := [some (.ref 0), some (.int a1)]) (st' := [.int a1]) (s' := s) rfl ?_
  refine wpc_if (a := 9) (b := 4) rfl (by decide) rfl rfl (wpc_br (p := a1 = (0 : Int32)) ⟨fun hc317 => ?_, fun hc317 => ?_⟩)
  · have h318 := h.1 hc317
    refine wpc_sl (n := 2) (c' := 11) (pc' := 14) (ls' := [some (.ref 0), some (.int a1)]) (st' := [.int (1 : Int32)]) (s' := s) rfl ?_
    exact wpc_ret rfl rfl (fun q => absurd q (by decide)) rfl ⟨(1 : Int32), rfl, h318⟩
  · have h319 := h.2 hc317
    refine wpc_sl (n := 2) (c' := 11) (pc' := 6) (ls' := [some (.ref 0), some (.int a1)]) (st' := [.int (1 : Int32), .int a1]) (s' := s) rfl ?_
    refine wpc_icmp (a := 13) (b := 9) rfl (by decide) rfl rfl (wpc_br (p := a1 = (1 : Int32)) ⟨fun hc320 => ?_, fun hc320 => ?_⟩)
    · have h321 := h319.1 hc320
      refine wpc_sl (n := 2) (c' := 11) (pc' := 14) (ls' := [some (.ref 0), some (.int a1)]) (st' := [.int (1 : Int32)]) (s' := s) rfl ?_
      exact wpc_ret rfl rfl (fun q => absurd q (by decide)) rfl ⟨(1 : Int32), rfl, h321⟩
    · have h322 := h319.2 hc320
      refine wpc_sl (n := 1) (c' := 11) (pc' := 14) (ls' := [some (.ref 0), some (.int a1)]) (st' := [.int (0 : Int32)]) (s' := s) rfl ?_
      exact wpc_ret rfl rfl (fun q => absurd q (by decide)) rfl ⟨(0 : Int32), rfl, h322⟩
theorem c28_in (a1 : Int32) (a2 : Int32) (s : St) (Q : Int64 → St → Prop) (h : Q (((Int32.toInt64 a1) <<< (((32 : Int32)).toInt64 &&& 63)) ||| ((Int32.toInt64 a2) &&& (4294967295 : Int64))) s) : calL PP 28 11 [.ref 0, .int a1, .int a2] s Q := by
  refine cal_of (me := cm28) (ls := [some (.ref 0), some (.int a1), some (.int a2), none, none, none, none]) rfl (Nat.le_of_ble_eq_true rfl) rfl ?_
  refine wpc_sl (n := 13) (c' := 11) (pc' := 18) (ls' := [some (.ref 0), some (.int a1), some (.int a2), some (.long ((Int32.toInt64 a1) <<< (((32 : Int32)).toInt64 &&& 63))), none, some (.long ((Int32.toInt64 a2) &&& (4294967295 : Int64))), none]) (st' := [.long (((Int32.toInt64 a1) <<< (((32 : Int32)).toInt64 &&& 63)) ||| ((Int32.toInt64 a2) &&& (4294967295 : Int64)))]) (s' := s) rfl ?_
  exact wpc_ret rfl rfl (fun q => absurd q (by decide)) rfl ⟨(((Int32.toInt64 a1) <<< (((32 : Int32)).toInt64 &&& 63)) ||| ((Int32.toInt64 a2) &&& (4294967295 : Int64))), rfl, h⟩
theorem c25_in (a1 : Int32) (s : St) (Q : Int32 → St → Prop) (h : ((a1 = (0 : Int32)) → Q (1 : Int32) s) ∧ (¬ (a1 = (0 : Int32)) → ((a1 = (1 : Int32)) → Q (1 : Int32) s) ∧ (¬ (a1 = (1 : Int32)) → ((a1 = (2 : Int32)) → Q (1 : Int32) s) ∧ (¬ (a1 = (2 : Int32)) → Q (0 : Int32) s)))) : calI PP 25 11 [.ref 0, .int a1] s Q := by
  refine cal_of (me := cm25) (ls := [some (.ref 0), some (.int a1)]) rfl (Nat.le_of_ble_eq_true rfl) rfl ?_
  refine wpc_sl (n := 1) (c' := 11) (pc' := 1) (ls' := [some (.ref 0), some (.int a1)]) (st' := [.int a1]) (s' := s) rfl ?_
  refine wpc_if (a := 14) (b := 4) rfl (by decide) rfl rfl (wpc_br (p := a1 = (0 : Int32)) ⟨fun hc338 => ?_, fun hc338 => ?_⟩)
  · have h339 := h.1 hc338
    refine wpc_sl (n := 2) (c' := 11) (pc' := 19) (ls' := [some (.ref 0), some (.int a1)]) (st' := [.int (1 : Int32)]) (s' := s) rfl ?_
    exact wpc_ret rfl rfl (fun q => absurd q (by decide)) rfl ⟨(1 : Int32), rfl, h339⟩
  · have h340 := h.2 hc338
    refine wpc_sl (n := 2) (c' := 11) (pc' := 6) (ls' := [some (.ref 0), some (.int a1)]) (st' := [.int (1 : Int32), .int a1]) (s' := s) rfl ?_
    refine wpc_icmp (a := 14) (b := 9) rfl (by decide) rfl rfl (wpc_br (p := a1 = (1 : Int32)) ⟨fun hc341 => ?_, fun hc341 => ?_⟩)
    · have h342 := h340.1 hc341
      refine wpc_sl (n := 2) (c' := 11) (pc' := 19) (ls' := [some (.ref 0), some (.int a1)]) (st' := [.int (1 : Int32)]) (s' := s) rfl ?_
      exact wpc_ret rfl rfl (fun q => absurd q (by decide)) rfl ⟨(1 : Int32), rfl, h342⟩
    · have h343 := h340.2 hc341
      refine wpc_sl (n := 2) (c' := 11) (pc' := 11) (ls' := [some (.ref 0), some (.int a1)]) (st' := [.int (2 : Int32), .int a1]) (s' := s) rfl ?_
      refine wpc_icmp (a := 18) (b := 14) rfl (by decide) rfl rfl (wpc_br (p := a1 = (2 : Int32)) ⟨fun hc344 => ?_, fun hc344 => ?_⟩)
      · have h345 := h343.1 hc344
        refine wpc_sl (n := 2) (c' := 11) (pc' := 19) (ls' := [some (.ref 0), some (.int a1)]) (st' := [.int (1 : Int32)]) (s' := s) rfl ?_
        exact wpc_ret rfl rfl (fun q => absurd q (by decide)) rfl ⟨(1 : Int32), rfl, h345⟩
      · have h346 := h343.2 hc344
        refine wpc_sl (n := 1) (c' := 11) (pc' := 19) (ls' := [some (.ref 0), some (.int a1)]) (st' := [.int (0 : Int32)]) (s' := s) rfl ?_
        exact wpc_ret rfl rfl (fun q => absurd q (by decide)) rfl ⟨(0 : Int32), rfl, h346⟩
theorem c22_in (a1 : Int32) (s : St) (Q : Int32 → St → Prop) (h : ((a1 < (1 : Int32)) → Q (0 : Int32) s) ∧ (¬ (a1 < (1 : Int32)) → (((gI s 0 20) < a1) → Q (0 : Int32) s) ∧ (¬ ((gI s 0 20) < a1) → Q (1 : Int32) s))) : calI PP 22 11 [.ref 0, .int a1] s Q := by
  refine cal_of (me := cm22) (ls := [some (.ref 0), some (.int a1)]) rfl (Nat.le_of_ble_eq_true rfl) rfl ?_
  refine wpc_sl (n := 2) (c' := 11) (pc' := 2) (ls' := [some (.ref 0), some (.int a1)]) (st' := [.int (1 : Int32), .int a1]) (s' := s) rfl ?_
  refine wpc_icmp (a := 17) (b := 5) rfl (by decide) rfl rfl (wpc_br (p := a1 < (1 : Int32)) ⟨fun hc378 => ?_, fun hc378 => ?_⟩)
  · have h379 := h.1 hc378
    refine wpc_sl (n := 1) (c' := 11) (pc' := 18) (ls' := [some (.ref 0), some (.int a1)]) (st' := [.int (0 : Int32)]) (s' := s) rfl ?_
    exact wpc_ret rfl rfl (fun q => absurd q (by decide)) rfl ⟨(0 : Int32), rfl, h379⟩
  · have h380 := h.2 hc378
    refine wpc_sl (n := 3) (c' := 11) (pc' := 10) (ls' := [some (.ref 0), some (.int a1)]) (st' := [.int (gI s 0 20), .int a1]) (s' := s) rfl ?_
    refine wpc_icmp (a := 17) (b := 13) rfl (by decide) rfl rfl (wpc_br (p := (gI s 0 20) < a1) ⟨fun hc381 => ?_, fun hc381 => ?_⟩)
    · have h382 := h380.1 hc381
      refine wpc_sl (n := 1) (c' := 11) (pc' := 18) (ls' := [some (.ref 0), some (.int a1)]) (st' := [.int (0 : Int32)]) (s' := s) rfl ?_
      exact wpc_ret rfl rfl (fun q => absurd q (by decide)) rfl ⟨(0 : Int32), rfl, h382⟩
    · have h383 := h380.2 hc381
      refine wpc_sl (n := 2) (c' := 11) (pc' := 18) (ls' := [some (.ref 0), some (.int a1)]) (st' := [.int (1 : Int32)]) (s' := s) rfl ?_
      exact wpc_ret rfl rfl (fun q => absurd q (by decide)) rfl ⟨(1 : Int32), rfl, h383⟩
theorem c23_in (a1 : Int32) (s : St) (Q : Int32 → St → Prop) (h : ((a1 = (0 : Int32)) → Q (1 : Int32) s) ∧ (¬ (a1 = (0 : Int32)) → ((a1 = (1 : Int32)) → Q (1 : Int32) s) ∧ (¬ (a1 = (1 : Int32)) → Q (0 : Int32) s))) : calI PP 23 11 [.ref 0, .int a1] s Q := by
  refine cal_of (me := cm23) (ls := [some (.ref 0), some (.int a1)]) rfl (Nat.le_of_ble_eq_true rfl) rfl ?_
  refine wpc_sl (n := 1) (c' := 11) (pc' := 1) (ls' := [some (.ref 0), some (.int a1)]) (st' := [.int a1]) (s' := s) rfl ?_
  refine wpc_if (a := 9) (b := 4) rfl (by decide) rfl rfl (wpc_br (p := a1 = (0 : Int32)) ⟨fun hc384 => ?_, fun hc384 => ?_⟩)
  · have h385 := h.1 hc384
    refine wpc_sl (n := 2) (c' := 11) (pc' := 14) (ls' := [some (.ref 0), some (.int a1)]) (st' := [.int (1 : Int32)]) (s' := s) rfl ?_
    exact wpc_ret rfl rfl (fun q => absurd q (by decide)) rfl ⟨(1 : Int32), rfl, h385⟩
  · have h386 := h.2 hc384
    refine wpc_sl (n := 2) (c' := 11) (pc' := 6) (ls' := [some (.ref 0), some (.int a1)]) (st' := [.int (1 : Int32), .int a1]) (s' := s) rfl ?_
    refine wpc_icmp (a := 13) (b := 9) rfl (by decide) rfl rfl (wpc_br (p := a1 = (1 : Int32)) ⟨fun hc387 => ?_, fun hc387 => ?_⟩)
    · have h388 := h386.1 hc387
      refine wpc_sl (n := 2) (c' := 11) (pc' := 14) (ls' := [some (.ref 0), some (.int a1)]) (st' := [.int (1 : Int32)]) (s' := s) rfl ?_
      exact wpc_ret rfl rfl (fun q => absurd q (by decide)) rfl ⟨(1 : Int32), rfl, h388⟩
    · have h389 := h386.2 hc387
      refine wpc_sl (n := 1) (c' := 11) (pc' := 14) (ls' := [some (.ref 0), some (.int a1)]) (st' := [.int (0 : Int32)]) (s' := s) rfl ?_
      exact wpc_ret rfl rfl (fun q => absurd q (by decide)) rfl ⟨(0 : Int32), rfl, h389⟩
theorem c31_in (a1 : Int32) (a2 : Int32) (a3 : Int32) (a4 : Int32) (s : St) (Q : Int32 → St → Prop) (h : calI PP 21 11 [.ref 0, .int a1] s (fun v358 s357 => ((v358 = (0 : Int32)) → Q (0 : Int32) s357) ∧ (¬ (v358 = (0 : Int32)) → calI PP 21 11 [.ref 0, .int a2] s357 (fun v364 s363 => ((v364 = (0 : Int32)) → Q (0 : Int32) s363) ∧ (¬ (v364 = (0 : Int32)) → calI PP 22 11 [.ref 0, .int a3] s363 (fun v370 s369 => ((v370 = (0 : Int32)) → Q (0 : Int32) s369) ∧ (¬ (v370 = (0 : Int32)) → calI PP 23 11 [.ref 0, .int a4] s369 (fun v376 s375 => Q (v376 &&& 1) s375)))))))) : calI PP 31 11 [.ref 0, .int a1, .int a2, .int a3, .int a4] s Q := by
  refine cal_of (me := cm31) (ls := [some (.ref 0), some (.int a1), some (.int a2), some (.int a3), some (.int a4)]) rfl (Nat.le_of_ble_eq_true rfl) rfl ?_
  refine wpc_sl (n := 2) (c' := 11) (pc' := 2) (ls' := [some (.ref 0), some (.int a1), some (.int a2), some (.int a3), some (.int a4)]) (st' := [.int a1, .ref 0]) (s' := s) rfl ?_
  refine wpc_callI (m' := 21) (me' := cm21) (as := [.int a1]) (r := []) rfl rfl rfl rfl rfl ⟨by decide, (by first | decide | exact Nat.le_of_ble_eq_true rfl), (by first | decide | exact Nat.le_of_ble_eq_true rfl), rfl⟩ (calI.mono h fun v358 s357 h359 => ?_)
  refine wpc_if (a := 10) (b := 8) rfl (by decide) rfl rfl (wpc_br (p := v358 = (0 : Int32)) ⟨fun hc360 => ?_, fun hc360 => ?_⟩)
  · have h361 := h359.1 hc360
    refine wpc_sl (n := 1) (c' := 11) (pc' := 9) (ls' := [some (.ref 0), some (.int a1), some (.int a2), some (.int a3), some (.int a4)]) (st' := [.int (0 : Int32)]) (s' := s357) rfl ?_
    exact wpc_ret rfl rfl (fun q => absurd q (by decide)) rfl ⟨(0 : Int32), rfl, h361⟩
  · have h362 := h359.2 hc360
    refine wpc_sl (n := 2) (c' := 11) (pc' := 12) (ls' := [some (.ref 0), some (.int a1), some (.int a2), some (.int a3), some (.int a4)]) (st' := [.int a2, .ref 0]) (s' := s357) rfl ?_
    refine wpc_callI (m' := 21) (me' := cm21) (as := [.int a2]) (r := []) rfl rfl rfl rfl rfl ⟨by decide, (by first | decide | exact Nat.le_of_ble_eq_true rfl), (by first | decide | exact Nat.le_of_ble_eq_true rfl), rfl⟩ (calI.mono h362 fun v364 s363 h365 => ?_)
    refine wpc_if (a := 20) (b := 18) rfl (by decide) rfl rfl (wpc_br (p := v364 = (0 : Int32)) ⟨fun hc366 => ?_, fun hc366 => ?_⟩)
    · have h367 := h365.1 hc366
      refine wpc_sl (n := 1) (c' := 11) (pc' := 19) (ls' := [some (.ref 0), some (.int a1), some (.int a2), some (.int a3), some (.int a4)]) (st' := [.int (0 : Int32)]) (s' := s363) rfl ?_
      exact wpc_ret rfl rfl (fun q => absurd q (by decide)) rfl ⟨(0 : Int32), rfl, h367⟩
    · have h368 := h365.2 hc366
      refine wpc_sl (n := 2) (c' := 11) (pc' := 22) (ls' := [some (.ref 0), some (.int a1), some (.int a2), some (.int a3), some (.int a4)]) (st' := [.int a3, .ref 0]) (s' := s363) rfl ?_
      refine wpc_callI (m' := 22) (me' := cm22) (as := [.int a3]) (r := []) rfl rfl rfl rfl rfl ⟨by decide, (by first | decide | exact Nat.le_of_ble_eq_true rfl), (by first | decide | exact Nat.le_of_ble_eq_true rfl), rfl⟩ (calI.mono h368 fun v370 s369 h371 => ?_)
      refine wpc_if (a := 30) (b := 28) rfl (by decide) rfl rfl (wpc_br (p := v370 = (0 : Int32)) ⟨fun hc372 => ?_, fun hc372 => ?_⟩)
      · have h373 := h371.1 hc372
        refine wpc_sl (n := 1) (c' := 11) (pc' := 29) (ls' := [some (.ref 0), some (.int a1), some (.int a2), some (.int a3), some (.int a4)]) (st' := [.int (0 : Int32)]) (s' := s369) rfl ?_
        exact wpc_ret rfl rfl (fun q => absurd q (by decide)) rfl ⟨(0 : Int32), rfl, h373⟩
      · have h374 := h371.2 hc372
        refine wpc_sl (n := 2) (c' := 11) (pc' := 33) (ls' := [some (.ref 0), some (.int a1), some (.int a2), some (.int a3), some (.int a4)]) (st' := [.int a4, .ref 0]) (s' := s369) rfl ?_
        refine wpc_callI (m' := 23) (me' := cm23) (as := [.int a4]) (r := []) rfl rfl rfl rfl rfl ⟨by decide, (by first | decide | exact Nat.le_of_ble_eq_true rfl), (by first | decide | exact Nat.le_of_ble_eq_true rfl), rfl⟩ (calI.mono h374 fun v376 s375 h377 => ?_)
        exact wpc_ret rfl rfl (fun q => absurd q (by decide)) rfl ⟨(v376 &&& 1), rfl, h377⟩
theorem c29_in (a1 : Int32) (a2 : Int32) (a3 : Int32) (s : St) (Q : Int32 → St → Prop) (h : Q ((((a1 * (8 : Int32)) + (a2 - (1 : Int32))) * (2 : Int32)) + a3) s) : calI PP 29 11 [.ref 0, .int a1, .int a2, .int a3] s Q := by
  refine cal_of (me := cm29) (ls := [some (.ref 0), some (.int a1), some (.int a2), some (.int a3)]) rfl (Nat.le_of_ble_eq_true rfl) rfl ?_
  refine wpc_sl (n := 11) (c' := 11) (pc' := 12) (ls' := [some (.ref 0), some (.int a1), some (.int a2), some (.int a3)]) (st' := [.int ((((a1 * (8 : Int32)) + (a2 - (1 : Int32))) * (2 : Int32)) + a3)]) (s' := s) rfl ?_
  exact wpc_ret rfl rfl (fun q => absurd q (by decide)) rfl ⟨((((a1 * (8 : Int32)) + (a2 - (1 : Int32))) * (2 : Int32)) + a3), rfl, h⟩
theorem c33_in (a1 : Int32) (a2 : Int32) (a3 : Int32) (a4 : Int32) (s : St) (Q : St → Prop) (h : calI PP 31 11 [.ref 0, .int a1, .int (0 : Int32), .int a2, .int a3] s (fun v348 s347 => ((v348 = (0 : Int32)) → Q s347) ∧ (¬ (v348 = (0 : Int32)) → calI PP 29 11 [.ref 0, .int a1, .int a2, .int a3] s347 (fun v354 s353 => inb 112 v354 ∧ Q (sI s353 10 (ix v354) a4))))) : calV PP 33 11 [.ref 0, .int a1, .int a2, .int a3, .int a4] s Q := by
  refine cal_of (me := cm33) (ls := [some (.ref 0), some (.int a1), some (.int a2), some (.int a3), some (.int a4)]) rfl (Nat.le_of_ble_eq_true rfl) rfl ?_
  refine wpc_sl (n := 5) (c' := 11) (pc' := 5) (ls' := [some (.ref 0), some (.int a1), some (.int a2), some (.int a3), some (.int a4)]) (st' := [.int a3, .int a2, .int (0 : Int32), .int a1, .ref 0]) (s' := s) rfl ?_
  refine wpc_callI (m' := 31) (me' := cm31) (as := [.int a1, .int (0 : Int32), .int a2, .int a3]) (r := []) rfl rfl rfl rfl rfl ⟨by decide, (by first | decide | exact Nat.le_of_ble_eq_true rfl), (by first | decide | exact Nat.le_of_ble_eq_true rfl), rfl⟩ (calI.mono h fun v348 s347 h349 => ?_)
  refine wpc_if (a := 12) (b := 11) rfl (by decide) rfl rfl (wpc_br (p := v348 = (0 : Int32)) ⟨fun hc350 => ?_, fun hc350 => ?_⟩)
  · have h351 := h349.1 hc350
    exact wpc_ret rfl rfl (fun q => absurd q (by decide)) rfl ⟨rfl, h351⟩
  · have h352 := h349.2 hc350
    refine wpc_sl (n := 6) (c' := 11) (pc' := 20) (ls' := [some (.ref 0), some (.int a1), some (.int a2), some (.int a3), some (.int a4)]) (st' := [.int a3, .int a2, .int a1, .ref 0, .ref 10]) (s' := s347) rfl ?_
    refine wpc_callI (m' := 29) (me' := cm29) (as := [.int a1, .int a2, .int a3]) (r := [.ref 10]) rfl rfl rfl rfl rfl ⟨by decide, (by first | decide | exact Nat.le_of_ble_eq_true rfl), (by first | decide | exact Nat.le_of_ble_eq_true rfl), rfl⟩ (calI.mono h352 fun v354 s353 h355 => ?_)
    refine wpc_sl (n := 1) (c' := 11) (pc' := 25) (ls' := [some (.ref 0), some (.int a1), some (.int a2), some (.int a3), some (.int a4)]) (st' := [.int a4, .int v354, .ref 10]) (s' := s353) rfl ?_
    refine wpc_staI (a := 9) (N := 112) (s' := (sI s353 10 (ix v354) a4)) rfl rfl (by decide) h355.1 rfl ?_
    have h356 := h355.2
    exact wpc_ret rfl rfl (fun q => absurd q (by decide)) rfl ⟨rfl, h356⟩
theorem c30_in (a1 : Int32) (a2 : Int32) (a3 : Int32) (a4 : Int32) (s : St) (Q : Int32 → St → Prop) (h : Q ((((((a1 * (7 : Int32)) + a2) * (8 : Int32)) + (a3 - (1 : Int32))) * (2 : Int32)) + a4) s) : calI PP 30 11 [.ref 0, .int a1, .int a2, .int a3, .int a4] s Q := by
  refine cal_of (me := cm30) (ls := [some (.ref 0), some (.int a1), some (.int a2), some (.int a3), some (.int a4)]) rfl (Nat.le_of_ble_eq_true rfl) rfl ?_
  refine wpc_sl (n := 15) (c' := 11) (pc' := 18) (ls' := [some (.ref 0), some (.int a1), some (.int a2), some (.int a3), some (.int a4)]) (st' := [.int ((((((a1 * (7 : Int32)) + a2) * (8 : Int32)) + (a3 - (1 : Int32))) * (2 : Int32)) + a4)]) (s' := s) rfl ?_
  exact wpc_ret rfl rfl (fun q => absurd q (by decide)) rfl ⟨((((((a1 * (7 : Int32)) + a2) * (8 : Int32)) + (a3 - (1 : Int32))) * (2 : Int32)) + a4), rfl, h⟩
theorem c35_in (a1 : Int32) (a2 : Int32) (a3 : Int32) (a4 : Int32) (a5 : Int32) (s : St) (Q : St → Prop) (h : calI PP 31 11 [.ref 0, .int a1, .int a2, .int a3, .int a4] s (fun v391 s390 => ((v391 = (0 : Int32)) → Q s390) ∧ (¬ (v391 = (0 : Int32)) → calI PP 30 11 [.ref 0, .int a1, .int a2, .int a3, .int a4] s390 (fun v397 s396 => inb 784 v397 ∧ Q (sI s396 11 (ix v397) a5))))) : calV PP 35 11 [.ref 0, .int a1, .int a2, .int a3, .int a4, .int a5] s Q := by
  refine cal_of (me := cm35) (ls := [some (.ref 0), some (.int a1), some (.int a2), some (.int a3), some (.int a4), some (.int a5)]) rfl (Nat.le_of_ble_eq_true rfl) rfl ?_
  refine wpc_sl (n := 5) (c' := 11) (pc' := 6) (ls' := [some (.ref 0), some (.int a1), some (.int a2), some (.int a3), some (.int a4), some (.int a5)]) (st' := [.int a4, .int a3, .int a2, .int a1, .ref 0]) (s' := s) rfl ?_
  refine wpc_callI (m' := 31) (me' := cm31) (as := [.int a1, .int a2, .int a3, .int a4]) (r := []) rfl rfl rfl rfl rfl ⟨by decide, (by first | decide | exact Nat.le_of_ble_eq_true rfl), (by first | decide | exact Nat.le_of_ble_eq_true rfl), rfl⟩ (calI.mono h fun v391 s390 h392 => ?_)
  refine wpc_if (a := 13) (b := 12) rfl (by decide) rfl rfl (wpc_br (p := v391 = (0 : Int32)) ⟨fun hc393 => ?_, fun hc393 => ?_⟩)
  · have h394 := h392.1 hc393
    exact wpc_ret rfl rfl (fun q => absurd q (by decide)) rfl ⟨rfl, h394⟩
  · have h395 := h392.2 hc393
    refine wpc_sl (n := 7) (c' := 11) (pc' := 23) (ls' := [some (.ref 0), some (.int a1), some (.int a2), some (.int a3), some (.int a4), some (.int a5)]) (st' := [.int a4, .int a3, .int a2, .int a1, .ref 0, .ref 11]) (s' := s390) rfl ?_
    refine wpc_callI (m' := 30) (me' := cm30) (as := [.int a1, .int a2, .int a3, .int a4]) (r := [.ref 11]) rfl rfl rfl rfl rfl ⟨by decide, (by first | decide | exact Nat.le_of_ble_eq_true rfl), (by first | decide | exact Nat.le_of_ble_eq_true rfl), rfl⟩ (calI.mono h395 fun v397 s396 h398 => ?_)
    refine wpc_sl (n := 1) (c' := 11) (pc' := 28) (ls' := [some (.ref 0), some (.int a1), some (.int a2), some (.int a3), some (.int a4), some (.int a5)]) (st' := [.int a5, .int v397, .ref 11]) (s' := s396) rfl ?_
    refine wpc_staI (a := 10) (N := 784) (s' := (sI s396 11 (ix v397) a5)) rfl rfl (by decide) h398.1 rfl ?_
    have h399 := h398.2
    exact wpc_ret rfl rfl (fun q => absurd q (by decide)) rfl ⟨rfl, h399⟩
theorem c36_in (a1 : Int32) (a2 : Int32) (a3 : Int32) (a4 : Int32) (s : St) (Q : St → Prop) (h : calI PP 25 11 [.ref 0, .int a4] s (fun v324 s323 => ((v324 = (0 : Int32)) → Q s323) ∧ (¬ (v324 = (0 : Int32)) → calV PP 33 11 [.ref 0, .int a1, .int a2, .int a3, .int a4] s323 (fun s329 => wpcV PP 36 cm36 11 22 [some (.ref 0), some (.int a1), some (.int a2), some (.int a3), none, some (.int (0 : Int32))] [] s329 Q)))) : calV PP 36 11 [.ref 0, .int a1, .int a2, .int a3, .int a4] s Q := by
  refine cal_of (me := cm36) (ls := [some (.ref 0), some (.int a1), some (.int a2), some (.int a3), some (.int a4), none]) rfl (Nat.le_of_ble_eq_true rfl) rfl ?_
  refine wpc_sl (n := 2) (c' := 11) (pc' := 3) (ls' := [some (.ref 0), some (.int a1), some (.int a2), some (.int a3), some (.int a4), none]) (st' := [.int a4, .ref 0]) (s' := s) rfl ?_
  refine wpc_callI (m' := 25) (me' := cm25) (as := [.int a4]) (r := []) rfl rfl rfl rfl rfl ⟨by decide, (by first | decide | exact Nat.le_of_ble_eq_true rfl), (by first | decide | exact Nat.le_of_ble_eq_true rfl), rfl⟩ (calI.mono h fun v324 s323 h325 => ?_)
  refine wpc_if (a := 10) (b := 9) rfl (by decide) rfl rfl (wpc_br (p := v324 = (0 : Int32)) ⟨fun hc326 => ?_, fun hc326 => ?_⟩)
  · have h327 := h325.1 hc326
    exact wpc_ret rfl rfl (fun q => absurd q (by decide)) rfl ⟨rfl, h327⟩
  · have h328 := h325.2 hc326
    refine wpc_sl (n := 5) (c' := 11) (pc' := 16) (ls' := [some (.ref 0), some (.int a1), some (.int a2), some (.int a3), some (.int a4), none]) (st' := [.int a4, .int a3, .int a2, .int a1, .ref 0]) (s' := s323) rfl ?_
    refine wpc_callV (m' := 33) (me' := cm33) (as := [.int a1, .int a2, .int a3, .int a4]) (r := []) rfl rfl rfl rfl rfl ⟨by decide, (by first | decide | exact Nat.le_of_ble_eq_true rfl), (by first | decide | exact Nat.le_of_ble_eq_true rfl), rfl⟩ (calV.mono h328 fun s329 h331 => ?_)
    refine wpc_sl (n := 2) (c' := 11) (pc' := 22) (ls' := [some (.ref 0), some (.int a1), some (.int a2), some (.int a3), some (.int a4), some (.int (0 : Int32))]) (st' := []) (s' := s329) rfl ?_
    exact wpc_lle (ls := [some (.ref 0), some (.int a1), some (.int a2), some (.int a3), none, some (.int (0 : Int32))]) ⟨rfl, rfl, rfl, rfl, rfl, trivial⟩ h331
theorem c36_22 (x1 : Int32) (x2 : Int32) (x3 : Int32) (x5 : Int32) (s : St) (Q : St → Prop) (h : ((x5 < (7 : Int32)) → calV PP 35 11 [.ref 0, .int x1, .int x5, .int x2, .int x3, .int (1 : Int32)] s (fun s335 => wpcV PP 36 cm36 11 22 [some (.ref 0), some (.int x1), some (.int x2), some (.int x3), none, some (.int (x5 + (1 : Int32)))] [] s335 Q)) ∧ (¬ (x5 < (7 : Int32)) → Q s)) : wpcV PP 36 cm36 11 22 [some (.ref 0), some (.int x1), some (.int x2), some (.int x3), none, some (.int x5)] [] s Q := by
  refine wpc_sl (n := 2) (c' := 11) (pc' := 26) (ls' := [some (.ref 0), some (.int x1), some (.int x2), some (.int x3), none, some (.int x5)]) (st' := [.int (7 : Int32), .int x5]) (s' := s) rfl ?_
  refine wpc_icmp (a := 45) (b := 29) rfl (by decide) rfl rfl (wpc_br (p := x5 < (7 : Int32)) ⟨fun hc332 => ?_, fun hc332 => ?_⟩)
  · have h333 := h.1 hc332
    refine wpc_sl (n := 6) (c' := 11) (pc' := 36) (ls' := [some (.ref 0), some (.int x1), some (.int x2), some (.int x3), none, some (.int x5)]) (st' := [.int (1 : Int32), .int x3, .int x2, .int x5, .int x1, .ref 0]) (s' := s) rfl ?_
    refine wpc_callV (m' := 35) (me' := cm35) (as := [.int x1, .int x5, .int x2, .int x3, .int (1 : Int32)]) (r := []) rfl rfl rfl rfl rfl ⟨by decide, (by first | decide | exact Nat.le_of_ble_eq_true rfl), (by first | decide | exact Nat.le_of_ble_eq_true rfl), rfl⟩ (calV.mono h333 fun s335 h337 => ?_)
    refine wpc_sl (n := 2) (c' := 11) (pc' := 22) (ls' := [some (.ref 0), some (.int x1), some (.int x2), some (.int x3), none, some (.int (x5 + (1 : Int32)))]) (st' := []) (s' := s335) rfl ?_
    exact h337
  · have h334 := h.2 hc332
    exact wpc_ret rfl rfl (fun q => absurd q (by decide)) rfl ⟨rfl, h334⟩
theorem c34_in (a1 : Int32) (a2 : Int32) (a3 : Int32) (a4 : Int32) (s : St) (Q : Int32 → St → Prop) (h : calI PP 31 11 [.ref 0, .int a1, .int a2, .int a3, .int a4] s (fun v465 s464 => ((v465 = (0 : Int32)) → Q (-1 : Int32) s464) ∧ (¬ (v465 = (0 : Int32)) → calI PP 30 11 [.ref 0, .int a1, .int a2, .int a3, .int a4] s464 (fun v471 s470 => inb 784 v471 ∧ Q (gI s470 11 (ix v471)) s470)))) : calI PP 34 11 [.ref 0, .int a1, .int a2, .int a3, .int a4] s Q := by
  refine cal_of (me := cm34) (ls := [some (.ref 0), some (.int a1), some (.int a2), some (.int a3), some (.int a4)]) rfl (Nat.le_of_ble_eq_true rfl) rfl ?_
  refine wpc_sl (n := 5) (c' := 11) (pc' := 6) (ls' := [some (.ref 0), some (.int a1), some (.int a2), some (.int a3), some (.int a4)]) (st' := [.int a4, .int a3, .int a2, .int a1, .ref 0]) (s' := s) rfl ?_
  refine wpc_callI (m' := 31) (me' := cm31) (as := [.int a1, .int a2, .int a3, .int a4]) (r := []) rfl rfl rfl rfl rfl ⟨by decide, (by first | decide | exact Nat.le_of_ble_eq_true rfl), (by first | decide | exact Nat.le_of_ble_eq_true rfl), rfl⟩ (calI.mono h fun v465 s464 h466 => ?_)
  refine wpc_if (a := 14) (b := 12) rfl (by decide) rfl rfl (wpc_br (p := v465 = (0 : Int32)) ⟨fun hc467 => ?_, fun hc467 => ?_⟩)
  · have h468 := h466.1 hc467
    refine wpc_sl (n := 1) (c' := 11) (pc' := 13) (ls' := [some (.ref 0), some (.int a1), some (.int a2), some (.int a3), some (.int a4)]) (st' := [.int (-1 : Int32)]) (s' := s464) rfl ?_
    exact wpc_ret rfl rfl (fun q => absurd q (by decide)) rfl ⟨(-1 : Int32), rfl, h468⟩
  · have h469 := h466.2 hc467
    refine wpc_sl (n := 7) (c' := 11) (pc' := 24) (ls' := [some (.ref 0), some (.int a1), some (.int a2), some (.int a3), some (.int a4)]) (st' := [.int a4, .int a3, .int a2, .int a1, .ref 0, .ref 11]) (s' := s464) rfl ?_
    refine wpc_callI (m' := 30) (me' := cm30) (as := [.int a1, .int a2, .int a3, .int a4]) (r := [.ref 11]) rfl rfl rfl rfl rfl ⟨by decide, (by first | decide | exact Nat.le_of_ble_eq_true rfl), (by first | decide | exact Nat.le_of_ble_eq_true rfl), rfl⟩ (calI.mono h469 fun v471 s470 h472 => ?_)
    refine wpc_ldaI (a := 10) (N := 784) (v := (gI s470 11 (ix v471))) rfl rfl (by decide) h472.1 rfl ?_
    have h473 := h472.2
    exact wpc_ret rfl rfl (fun q => absurd q (by decide)) rfl ⟨(gI s470 11 (ix v471)), rfl, h473⟩
theorem c40_in (a1 : Int32) (a2 : Int32) (a3 : Int32) (s : St) (Q : Int32 → St → Prop) (h : wpcI PP 40 cm40 11 6 [some (.ref 0), some (.int a1), some (.int a2), some (.int a3), some (.int (0 : Int32)), some (.int (0 : Int32))] [] s Q) : calI PP 40 11 [.ref 0, .int a1, .int a2, .int a3] s Q := by
  refine cal_of (me := cm40) (ls := [some (.ref 0), some (.int a1), some (.int a2), some (.int a3), none, none]) rfl (Nat.le_of_ble_eq_true rfl) rfl ?_
  refine wpc_sl (n := 4) (c' := 11) (pc' := 6) (ls' := [some (.ref 0), some (.int a1), some (.int a2), some (.int a3), some (.int (0 : Int32)), some (.int (0 : Int32))]) (st' := []) (s' := s) rfl ?_
  exact h
theorem c40_6 (x1 : Int32) (x2 : Int32) (x3 : Int32) (x4 : Int32) (x5 : Int32) (s : St) (Q : Int32 → St → Prop) (h : ((x5 < (7 : Int32)) → calI PP 34 11 [.ref 0, .int x5, .int x1, .int x2, .int x3] s (fun v458 s457 => ∀ m460, m460 = (if v458 = (2 : Int32) then (x4 + (1 : Int32)) else x4) → (wpcI PP 40 cm40 11 6 [some (.ref 0), some (.int x1), some (.int x2), some (.int x3), some (.int m460), some (.int (x5 + (1 : Int32)))] [] s457 Q))) ∧ (¬ (x5 < (7 : Int32)) → Q x4 s)) : wpcI PP 40 cm40 11 6 [some (.ref 0), some (.int x1), some (.int x2), some (.int x3), some (.int x4), some (.int x5)] [] s Q := by
  refine wpc_sl (n := 2) (c' := 11) (pc' := 10) (ls' := [some (.ref 0), some (.int x1), some (.int x2), some (.int x3), some (.int x4), some (.int x5)]) (st' := [.int (7 : Int32), .int x5]) (s' := s) rfl ?_
  refine wpc_icmp (a := 35) (b := 13) rfl (by decide) rfl rfl (wpc_br (p := x5 < (7 : Int32)) ⟨fun hc454 => ?_, fun hc454 => ?_⟩)
  · have h455 := h.1 hc454
    refine wpc_sl (n := 5) (c' := 11) (pc' := 19) (ls' := [some (.ref 0), some (.int x1), some (.int x2), some (.int x3), some (.int x4), some (.int x5)]) (st' := [.int x3, .int x2, .int x1, .int x5, .ref 0]) (s' := s) rfl ?_
    refine wpc_callI (m' := 34) (me' := cm34) (as := [.int x5, .int x1, .int x2, .int x3]) (r := []) rfl rfl rfl rfl rfl ⟨by decide, (by first | decide | exact Nat.le_of_ble_eq_true rfl), (by first | decide | exact Nat.le_of_ble_eq_true rfl), rfl⟩ (calI.mono h455 fun v458 s457 h459 => ?_)
    refine wpc_sl (n := 1) (c' := 11) (pc' := 23) (ls' := [some (.ref 0), some (.int x1), some (.int x2), some (.int x3), some (.int x4), some (.int x5)]) (st' := [.int (2 : Int32), .int v458]) (s' := s457) rfl ?_
    have hm461 : ∀ m460, m460 = (if v458 = (2 : Int32) then (x4 + (1 : Int32)) else x4) → wpcI PP 40 cm40 11 29 [some (.ref 0), some (.int x1), some (.int x2), some (.int x3), some (.int m460), some (.int x5)] [] s457 Q := by
      intro m460 em460
      have h462 := h459 m460 em460
      refine wpc_sl (n := 2) (c' := 11) (pc' := 6) (ls' := [some (.ref 0), some (.int x1), some (.int x2), some (.int x3), some (.int m460), some (.int (x5 + (1 : Int32)))]) (st' := []) (s' := s457) rfl ?_
      exact h462
    refine wpc_icmp (a := 29) (b := 26) rfl (by decide) rfl rfl (wpc_br (p := v458 = (2 : Int32)) ⟨fun hc463 => ?_, fun hc463 => ?_⟩)
    · refine wpc_sl (n := 1) (c' := 11) (pc' := 29) (ls' := [some (.ref 0), some (.int x1), some (.int x2), some (.int x3), some (.int (x4 + (1 : Int32))), some (.int x5)]) (st' := []) (s' := s457) rfl ?_
      first | exact hm461 _ (by simp only [if_pos hc463]) | exact wpc_lle (by repeat (first | exact trivial | refine ⟨rfl, ?_⟩)) (hm461 _ (by simp only [if_pos hc463]))
    · first | exact hm461 _ (by simp only [if_neg hc463]) | exact wpc_lle (by repeat (first | exact trivial | refine ⟨rfl, ?_⟩)) (hm461 _ (by simp only [if_neg hc463]))
  · have h456 := h.2 hc454
    refine wpc_sl (n := 1) (c' := 11) (pc' := 37) (ls' := [some (.ref 0), some (.int x1), some (.int x2), some (.int x3), some (.int x4), some (.int x5)]) (st' := [.int x4]) (s' := s) rfl ?_
    exact wpc_ret rfl rfl (fun q => absurd q (by decide)) rfl ⟨x4, rfl, h456⟩
theorem c32_in (a1 : Int32) (a2 : Int32) (a3 : Int32) (s : St) (Q : Int32 → St → Prop) (h : calI PP 31 11 [.ref 0, .int a1, .int (0 : Int32), .int a2, .int a3] s (fun v491 s490 => ((v491 = (0 : Int32)) → Q (-1 : Int32) s490) ∧ (¬ (v491 = (0 : Int32)) → calI PP 29 11 [.ref 0, .int a1, .int a2, .int a3] s490 (fun v497 s496 => inb 112 v497 ∧ Q (gI s496 10 (ix v497)) s496)))) : calI PP 32 11 [.ref 0, .int a1, .int a2, .int a3] s Q := by
  refine cal_of (me := cm32) (ls := [some (.ref 0), some (.int a1), some (.int a2), some (.int a3)]) rfl (Nat.le_of_ble_eq_true rfl) rfl ?_
  refine wpc_sl (n := 5) (c' := 11) (pc' := 5) (ls' := [some (.ref 0), some (.int a1), some (.int a2), some (.int a3)]) (st' := [.int a3, .int a2, .int (0 : Int32), .int a1, .ref 0]) (s' := s) rfl ?_
  refine wpc_callI (m' := 31) (me' := cm31) (as := [.int a1, .int (0 : Int32), .int a2, .int a3]) (r := []) rfl rfl rfl rfl rfl ⟨by decide, (by first | decide | exact Nat.le_of_ble_eq_true rfl), (by first | decide | exact Nat.le_of_ble_eq_true rfl), rfl⟩ (calI.mono h fun v491 s490 h492 => ?_)
  refine wpc_if (a := 13) (b := 11) rfl (by decide) rfl rfl (wpc_br (p := v491 = (0 : Int32)) ⟨fun hc493 => ?_, fun hc493 => ?_⟩)
  · have h494 := h492.1 hc493
    refine wpc_sl (n := 1) (c' := 11) (pc' := 12) (ls' := [some (.ref 0), some (.int a1), some (.int a2), some (.int a3)]) (st' := [.int (-1 : Int32)]) (s' := s490) rfl ?_
    exact wpc_ret rfl rfl (fun q => absurd q (by decide)) rfl ⟨(-1 : Int32), rfl, h494⟩
  · have h495 := h492.2 hc493
    refine wpc_sl (n := 6) (c' := 11) (pc' := 21) (ls' := [some (.ref 0), some (.int a1), some (.int a2), some (.int a3)]) (st' := [.int a3, .int a2, .int a1, .ref 0, .ref 10]) (s' := s490) rfl ?_
    refine wpc_callI (m' := 29) (me' := cm29) (as := [.int a1, .int a2, .int a3]) (r := [.ref 10]) rfl rfl rfl rfl rfl ⟨by decide, (by first | decide | exact Nat.le_of_ble_eq_true rfl), (by first | decide | exact Nat.le_of_ble_eq_true rfl), rfl⟩ (calI.mono h495 fun v497 s496 h498 => ?_)
    refine wpc_ldaI (a := 9) (N := 112) (v := (gI s496 10 (ix v497))) rfl rfl (by decide) h498.1 rfl ?_
    have h499 := h498.2
    exact wpc_ret rfl rfl (fun q => absurd q (by decide)) rfl ⟨(gI s496 10 (ix v497)), rfl, h499⟩
theorem c41_in (a1 : Int32) (a2 : Int32) (a3 : Int32) (a4 : Int32) (s : St) (Q : Int32 → St → Prop) (h : wpcI PP 41 cm41 11 6 [some (.ref 0), some (.int a1), some (.int a2), some (.int a3), some (.int a4), some (.int (0 : Int32)), some (.int (0 : Int32))] [] s Q) : calI PP 41 11 [.ref 0, .int a1, .int a2, .int a3, .int a4] s Q := by
  refine cal_of (me := cm41) (ls := [some (.ref 0), some (.int a1), some (.int a2), some (.int a3), some (.int a4), none, none]) rfl (Nat.le_of_ble_eq_true rfl) rfl ?_
  refine wpc_sl (n := 4) (c' := 11) (pc' := 6) (ls' := [some (.ref 0), some (.int a1), some (.int a2), some (.int a3), some (.int a4), some (.int (0 : Int32)), some (.int (0 : Int32))]) (st' := []) (s' := s) rfl ?_
  exact h
theorem c41_6 (x1 : Int32) (x2 : Int32) (x3 : Int32) (x4 : Int32) (x5 : Int32) (x6 : Int32) (s : St) (Q : Int32 → St → Prop) (h : ((x6 < (7 : Int32)) → calI PP 34 11 [.ref 0, .int x6, .int x1, .int x2, .int x3] s (fun v478 s477 => ((v478 = (2 : Int32)) → calI PP 32 11 [.ref 0, .int x6, .int x2, .int x3] s477 (fun v484 s483 => ∀ m486, m486 = (if v484 = x4 then (x5 + (1 : Int32)) else x5) → (wpcI PP 41 cm41 11 42 [some (.ref 0), some (.int x1), some (.int x2), some (.int x3), some (.int x4), some (.int m486), some (.int x6)] [] s483 Q))) ∧ (¬ (v478 = (2 : Int32)) → wpcI PP 41 cm41 11 42 [some (.ref 0), some (.int x1), some (.int x2), some (.int x3), some (.int x4), some (.int x5), some (.int x6)] [] s477 Q))) ∧ (¬ (x6 < (7 : Int32)) → Q x5 s)) : wpcI PP 41 cm41 11 6 [some (.ref 0), some (.int x1), some (.int x2), some (.int x3), some (.int x4), some (.int x5), some (.int x6)] [] s Q := by
  refine wpc_sl (n := 2) (c' := 11) (pc' := 10) (ls' := [some (.ref 0), some (.int x1), some (.int x2), some (.int x3), some (.int x4), some (.int x5), some (.int x6)]) (st' := [.int (7 : Int32), .int x6]) (s' := s) rfl ?_
  refine wpc_icmp (a := 48) (b := 13) rfl (by decide) rfl rfl (wpc_br (p := x6 < (7 : Int32)) ⟨fun hc474 => ?_, fun hc474 => ?_⟩)
  · have h475 := h.1 hc474
    refine wpc_sl (n := 5) (c' := 11) (pc' := 19) (ls' := [some (.ref 0), some (.int x1), some (.int x2), some (.int x3), some (.int x4), some (.int x5), some (.int x6)]) (st' := [.int x3, .int x2, .int x1, .int x6, .ref 0]) (s' := s) rfl ?_
    refine wpc_callI (m' := 34) (me' := cm34) (as := [.int x6, .int x1, .int x2, .int x3]) (r := []) rfl rfl rfl rfl rfl ⟨by decide, (by first | decide | exact Nat.le_of_ble_eq_true rfl), (by first | decide | exact Nat.le_of_ble_eq_true rfl), rfl⟩ (calI.mono h475 fun v478 s477 h479 => ?_)
    refine wpc_sl (n := 1) (c' := 11) (pc' := 23) (ls' := [some (.ref 0), some (.int x1), some (.int x2), some (.int x3), some (.int x4), some (.int x5), some (.int x6)]) (st' := [.int (2 : Int32), .int v478]) (s' := s477) rfl ?_
    refine wpc_icmp (a := 42) (b := 26) rfl (by decide) rfl rfl (wpc_br (p := v478 = (2 : Int32)) ⟨fun hc480 => ?_, fun hc480 => ?_⟩)
    · have h481 := h479.1 hc480
      refine wpc_sl (n := 4) (c' := 11) (pc' := 31) (ls' := [some (.ref 0), some (.int x1), some (.int x2), some (.int x3), some (.int x4), some (.int x5), some (.int x6)]) (st' := [.int x3, .int x2, .int x6, .ref 0]) (s' := s477) rfl ?_
      refine wpc_callI (m' := 32) (me' := cm32) (as := [.int x6, .int x2, .int x3]) (r := []) rfl rfl rfl rfl rfl ⟨by decide, (by first | decide | exact Nat.le_of_ble_eq_true rfl), (by first | decide | exact Nat.le_of_ble_eq_true rfl), rfl⟩ (calI.mono h481 fun v484 s483 h485 => ?_)
      refine wpc_sl (n := 1) (c' := 11) (pc' := 36) (ls' := [some (.ref 0), some (.int x1), some (.int x2), some (.int x3), some (.int x4), some (.int x5), some (.int x6)]) (st' := [.int x4, .int v484]) (s' := s483) rfl ?_
      have hm487 : ∀ m486, m486 = (if v484 = x4 then (x5 + (1 : Int32)) else x5) → wpcI PP 41 cm41 11 42 [some (.ref 0), some (.int x1), some (.int x2), some (.int x3), some (.int x4), some (.int m486), some (.int x6)] [] s483 Q := by
        intro m486 em486
        have h488 := h485 m486 em486
        exact h488
      refine wpc_icmp (a := 42) (b := 39) rfl (by decide) rfl rfl (wpc_br (p := v484 = x4) ⟨fun hc489 => ?_, fun hc489 => ?_⟩)
      · refine wpc_sl (n := 1) (c' := 11) (pc' := 42) (ls' := [some (.ref 0), some (.int x1), some (.int x2), some (.int x3), some (.int x4), some (.int (x5 + (1 : Int32))), some (.int x6)]) (st' := []) (s' := s483) rfl ?_
        first | exact hm487 _ (by simp only [if_pos hc489]) | exact wpc_lle (by repeat (first | exact trivial | refine ⟨rfl, ?_⟩)) (hm487 _ (by simp only [if_pos hc489]))
      · first | exact hm487 _ (by simp only [if_neg hc489]) | exact wpc_lle (by repeat (first | exact trivial | refine ⟨rfl, ?_⟩)) (hm487 _ (by simp only [if_neg hc489]))
    · have h482 := h479.2 hc480
      exact h482
  · have h476 := h.2 hc474
    refine wpc_sl (n := 1) (c' := 11) (pc' := 50) (ls' := [some (.ref 0), some (.int x1), some (.int x2), some (.int x3), some (.int x4), some (.int x5), some (.int x6)]) (st' := [.int x5]) (s' := s) rfl ?_
    exact wpc_ret rfl rfl (fun q => absurd q (by decide)) rfl ⟨x5, rfl, h476⟩
theorem c41_42 (x1 : Int32) (x2 : Int32) (x3 : Int32) (x4 : Int32) (x5 : Int32) (x6 : Int32) (s : St) (Q : Int32 → St → Prop) (h : wpcI PP 41 cm41 11 6 [some (.ref 0), some (.int x1), some (.int x2), some (.int x3), some (.int x4), some (.int x5), some (.int (x6 + (1 : Int32)))] [] s Q) : wpcI PP 41 cm41 11 42 [some (.ref 0), some (.int x1), some (.int x2), some (.int x3), some (.int x4), some (.int x5), some (.int x6)] [] s Q := by
  refine wpc_sl (n := 2) (c' := 11) (pc' := 6) (ls' := [some (.ref 0), some (.int x1), some (.int x2), some (.int x3), some (.int x4), some (.int x5), some (.int (x6 + (1 : Int32)))]) (st' := []) (s' := s) rfl ?_
  exact h
theorem c44_in (a1 : Int32) (a2 : Int32) (s : St) (Q : Int32 → St → Prop) (h : (((7 : Int32) < ((2 : Int32) * a1)) → Q (0 : Int32) s) ∧ (¬ ((7 : Int32) < ((2 : Int32) * a1)) → (((7 : Int32) < ((2 : Int32) * a2)) → Q (1 : Int32) s) ∧ (¬ ((7 : Int32) < ((2 : Int32) * a2)) → Q (2 : Int32) s))) : calI PP 44 11 [.ref 0, .int a1, .int a2] s Q := by
  refine cal_of (me := cm44) (ls := [some (.ref 0), some (.int a1), some (.int a2)]) rfl (Nat.le_of_ble_eq_true rfl) rfl ?_
  refine wpc_sl (n := 4) (c' := 11) (pc' := 5) (ls' := [some (.ref 0), some (.int a1), some (.int a2)]) (st' := [.int (7 : Int32), .int ((2 : Int32) * a1)]) (s' := s) rfl ?_
  refine wpc_icmp (a := 10) (b := 8) rfl (by decide) rfl rfl (wpc_br (p := (7 : Int32) < ((2 : Int32) * a1)) ⟨fun hc507 => ?_, fun hc507 => ?_⟩)
  · have h508 := h.1 hc507
    refine wpc_sl (n := 1) (c' := 11) (pc' := 9) (ls' := [some (.ref 0), some (.int a1), some (.int a2)]) (st' := [.int (0 : Int32)]) (s' := s) rfl ?_
    exact wpc_ret rfl rfl (fun q => absurd q (by decide)) rfl ⟨(0 : Int32), rfl, h508⟩
  · have h509 := h.2 hc507
    refine wpc_sl (n := 4) (c' := 11) (pc' := 15) (ls' := [some (.ref 0), some (.int a1), some (.int a2)]) (st' := [.int (7 : Int32), .int ((2 : Int32) * a2)]) (s' := s) rfl ?_
    refine wpc_icmp (a := 20) (b := 18) rfl (by decide) rfl rfl (wpc_br (p := (7 : Int32) < ((2 : Int32) * a2)) ⟨fun hc510 => ?_, fun hc510 => ?_⟩)
    · have h511 := h509.1 hc510
      refine wpc_sl (n := 1) (c' := 11) (pc' := 19) (ls' := [some (.ref 0), some (.int a1), some (.int a2)]) (st' := [.int (1 : Int32)]) (s' := s) rfl ?_
      exact wpc_ret rfl rfl (fun q => absurd q (by decide)) rfl ⟨(1 : Int32), rfl, h511⟩
    · have h512 := h509.2 hc510
      refine wpc_sl (n := 1) (c' := 11) (pc' := 21) (ls' := [some (.ref 0), some (.int a1), some (.int a2)]) (st' := [.int (2 : Int32)]) (s' := s) rfl ?_
      exact wpc_ret rfl rfl (fun q => absurd q (by decide)) rfl ⟨(2 : Int32), rfl, h512⟩
theorem c47_in (a1 : Int32) (a2 : Int32) (a3 : Int32) (a4 : Int32) (s : St) (Q : St → Prop) (h : calI PP 44 11 [.ref 0, .int a3, .int a4] s (fun v501 s500 => calV PP 36 11 [.ref 0, .int a1, .int a2, .int (1 : Int32), .int v501] s500 (fun s503 => inb 7 a1 ∧ Q (sI s503 5 (ix a1) (1 : Int32))))) : calV PP 47 11 [.ref 0, .int a1, .int a2, .int a3, .int a4] s Q := by
  refine cal_of (me := cm47) (ls := [some (.ref 0), some (.int a1), some (.int a2), some (.int a3), some (.int a4), none]) rfl (Nat.le_of_ble_eq_true rfl) rfl ?_
  refine wpc_sl (n := 3) (c' := 11) (pc' := 4) (ls' := [some (.ref 0), some (.int a1), some (.int a2), some (.int a3), some (.int a4), none]) (st' := [.int a4, .int a3, .ref 0]) (s' := s) rfl ?_
  refine wpc_callI (m' := 44) (me' := cm44) (as := [.int a3, .int a4]) (r := []) rfl rfl rfl rfl rfl ⟨by decide, (by first | decide | exact Nat.le_of_ble_eq_true rfl), (by first | decide | exact Nat.le_of_ble_eq_true rfl), rfl⟩ (calI.mono h fun v501 s500 h502 => ?_)
  refine wpc_sl (n := 6) (c' := 11) (pc' := 15) (ls' := [some (.ref 0), some (.int a1), some (.int a2), some (.int a3), some (.int a4), some (.int v501)]) (st' := [.int v501, .int (1 : Int32), .int a2, .int a1, .ref 0]) (s' := s500) rfl ?_
  refine wpc_callV (m' := 36) (me' := cm36) (as := [.int a1, .int a2, .int (1 : Int32), .int v501]) (r := []) rfl rfl rfl rfl rfl ⟨by decide, (by first | decide | exact Nat.le_of_ble_eq_true rfl), (by first | decide | exact Nat.le_of_ble_eq_true rfl), rfl⟩ (calV.mono h502 fun s503 h505 => ?_)
  refine wpc_sl (n := 4) (c' := 11) (pc' := 24) (ls' := [some (.ref 0), some (.int a1), some (.int a2), some (.int a3), some (.int a4), some (.int v501)]) (st' := [.int (1 : Int32), .int a1, .ref 5]) (s' := s503) rfl ?_
  refine wpc_staI (a := 4) (N := 7) (s' := (sI s503 5 (ix a1) (1 : Int32))) rfl rfl (by decide) h505.1 rfl ?_
  have h506 := h505.2
  exact wpc_ret rfl rfl (fun q => absurd q (by decide)) rfl ⟨rfl, h506⟩
theorem c45_in (a1 : Int32) (a2 : Int32) (s : St) (Q : Int32 → St → Prop) (h : ((a1 < (1 : Int32)) → wpcI PP 45 cm45 11 12 [none, none, some (.int a2)] [] s Q) ∧ (¬ (a1 < (1 : Int32)) → ((a1 < a2) → wpcI PP 45 cm45 11 12 [none, none, some (.int a2)] [] s Q) ∧ (¬ (a1 < a2) → Q (0 : Int32) s))) : calI PP 45 11 [.ref 0, .int a1, .int a2] s Q := by
  refine cal_of (me := cm45) (ls := [some (.ref 0), some (.int a1), some (.int a2)]) rfl (Nat.le_of_ble_eq_true rfl) rfl ?_
  refine wpc_sl (n := 2) (c' := 11) (pc' := 2) (ls' := [some (.ref 0), some (.int a1), some (.int a2)]) (st' := [.int (1 : Int32), .int a1]) (s' := s) rfl ?_
  refine wpc_icmp (a := 12) (b := 5) rfl (by decide) rfl rfl (wpc_br (p := a1 < (1 : Int32)) ⟨fun hc535 => ?_, fun hc535 => ?_⟩)
  · have h536 := h.1 hc535
    exact wpc_lle (ls := [none, none, some (.int a2)]) ⟨rfl, trivial⟩ h536
  · have h537 := h.2 hc535
    refine wpc_sl (n := 2) (c' := 11) (pc' := 7) (ls' := [some (.ref 0), some (.int a1), some (.int a2)]) (st' := [.int a2, .int a1]) (s' := s) rfl ?_
    refine wpc_icmp (a := 12) (b := 10) rfl (by decide) rfl rfl (wpc_br (p := a1 < a2) ⟨fun hc538 => ?_, fun hc538 => ?_⟩)
    · have h539 := h537.1 hc538
      exact wpc_lle (ls := [none, none, some (.int a2)]) ⟨rfl, trivial⟩ h539
    · have h540 := h537.2 hc538
      refine wpc_sl (n := 1) (c' := 11) (pc' := 11) (ls' := [some (.ref 0), some (.int a1), some (.int a2)]) (st' := [.int (0 : Int32)]) (s' := s) rfl ?_
      exact wpc_ret rfl rfl (fun q => absurd q (by decide)) rfl ⟨(0 : Int32), rfl, h540⟩
theorem c45_12 (x2 : Int32) (s : St) (Q : Int32 → St → Prop) (h : ((x2 < (1 : Int32)) → Q (-1 : Int32) s) ∧ (¬ (x2 < (1 : Int32)) → Q (1 : Int32) s)) : wpcI PP 45 cm45 11 12 [none, none, some (.int x2)] [] s Q := by
  refine wpc_sl (n := 2) (c' := 11) (pc' := 14) (ls' := [none, none, some (.int x2)]) (st' := [.int (1 : Int32), .int x2]) (s' := s) rfl ?_
  refine wpc_icmp (a := 19) (b := 17) rfl (by decide) rfl rfl (wpc_br (p := x2 < (1 : Int32)) ⟨fun hc541 => ?_, fun hc541 => ?_⟩)
  · have h542 := h.1 hc541
    refine wpc_sl (n := 1) (c' := 11) (pc' := 20) (ls' := [none, none, some (.int x2)]) (st' := [.int (-1 : Int32)]) (s' := s) rfl ?_
    exact wpc_ret rfl rfl (fun q => absurd q (by decide)) rfl ⟨(-1 : Int32), rfl, h542⟩
  · have h543 := h.2 hc541
    refine wpc_sl (n := 1) (c' := 11) (pc' := 18) (ls' := [none, none, some (.int x2)]) (st' := [.int (1 : Int32)]) (s' := s) rfl ?_
    exact wpc_ret rfl rfl (fun q => absurd q (by decide)) rfl ⟨(1 : Int32), rfl, h543⟩
theorem c50_in (a1 : Int32) (s : St) (Q : St → Prop) (h : inb 7 a1 ∧ inb 7 a1 ∧ inb 7 a1 ∧ inb 7 a1 ∧ inb 7 a1 ∧ Q (sI (sI (sL s 8 (ix a1) (((gL s 8 (ix a1)) * (6364136223846793005 : Int64)) + (1442695040888963407 : Int64))) 3 (ix a1) (Int64.toInt32 (XT.ushrL (((gL s 8 (ix a1)) * (6364136223846793005 : Int64)) + (1442695040888963407 : Int64)) (63 : Int32)))) 9 (ix a1) ((gI s 9 (ix a1)) + (1 : Int32)))) : calV PP 50 11 [.ref 0, .int a1] s Q := by
  refine cal_of (me := cm50) (ls := [some (.ref 0), some (.int a1), none, none]) rfl (Nat.le_of_ble_eq_true rfl) rfl ?_
  refine wpc_sl (n := 3) (c' := 11) (pc' := 5) (ls' := [some (.ref 0), some (.int a1), none, none]) (st' := [.int a1, .ref 8]) (s' := s) rfl ?_
  refine wpc_ldaJ (a := 7) (N := 7) (v := (gL s 8 (ix a1))) rfl rfl (by decide) h.1 rfl ?_
  have h544 := h.2
  refine wpc_sl (n := 9) (c' := 11) (pc' := 21) (ls' := [some (.ref 0), some (.int a1), some (.long (((gL s 8 (ix a1)) * (6364136223846793005 : Int64)) + (1442695040888963407 : Int64))), none]) (st' := [.long (((gL s 8 (ix a1)) * (6364136223846793005 : Int64)) + (1442695040888963407 : Int64)), .int a1, .ref 8]) (s' := s) rfl ?_
  refine wpc_staJ (a := 7) (N := 7) (s' := (sL s 8 (ix a1) (((gL s 8 (ix a1)) * (6364136223846793005 : Int64)) + (1442695040888963407 : Int64)))) rfl rfl (by decide) h544.1 rfl ?_
  have h545 := h544.2
  refine wpc_sl (n := 7) (c' := 11) (pc' := 32) (ls' := [some (.ref 0), some (.int a1), some (.long (((gL s 8 (ix a1)) * (6364136223846793005 : Int64)) + (1442695040888963407 : Int64))), none]) (st' := [.int (Int64.toInt32 (XT.ushrL (((gL s 8 (ix a1)) * (6364136223846793005 : Int64)) + (1442695040888963407 : Int64)) (63 : Int32))), .int a1, .ref 3]) (s' := (sL s 8 (ix a1) (((gL s 8 (ix a1)) * (6364136223846793005 : Int64)) + (1442695040888963407 : Int64)))) rfl ?_
  refine wpc_staI (a := 2) (N := 7) (s' := (sI (sL s 8 (ix a1) (((gL s 8 (ix a1)) * (6364136223846793005 : Int64)) + (1442695040888963407 : Int64))) 3 (ix a1) (Int64.toInt32 (XT.ushrL (((gL s 8 (ix a1)) * (6364136223846793005 : Int64)) + (1442695040888963407 : Int64)) (63 : Int32))))) rfl rfl (by decide) h545.1 rfl ?_
  have h546 := h545.2
  refine wpc_sl (n := 6) (c' := 11) (pc' := 43) (ls' := [some (.ref 0), some (.int a1), some (.long (((gL s 8 (ix a1)) * (6364136223846793005 : Int64)) + (1442695040888963407 : Int64))), none]) (st' := [.int a1, .ref 9, .int a1, .ref 9]) (s' := (sI (sL s 8 (ix a1) (((gL s 8 (ix a1)) * (6364136223846793005 : Int64)) + (1442695040888963407 : Int64))) 3 (ix a1) (Int64.toInt32 (XT.ushrL (((gL s 8 (ix a1)) * (6364136223846793005 : Int64)) + (1442695040888963407 : Int64)) (63 : Int32))))) rfl ?_
  refine wpc_ldaI (a := 8) (N := 7) (v := (gI s 9 (ix a1))) rfl rfl (by decide) h546.1 rfl ?_
  have h547 := h546.2
  refine wpc_sl (n := 2) (c' := 11) (pc' := 46) (ls' := [some (.ref 0), some (.int a1), some (.long (((gL s 8 (ix a1)) * (6364136223846793005 : Int64)) + (1442695040888963407 : Int64))), none]) (st' := [.int ((gI s 9 (ix a1)) + (1 : Int32)), .int a1, .ref 9]) (s' := (sI (sL s 8 (ix a1) (((gL s 8 (ix a1)) * (6364136223846793005 : Int64)) + (1442695040888963407 : Int64))) 3 (ix a1) (Int64.toInt32 (XT.ushrL (((gL s 8 (ix a1)) * (6364136223846793005 : Int64)) + (1442695040888963407 : Int64)) (63 : Int32))))) rfl ?_
  refine wpc_staI (a := 8) (N := 7) (s' := (sI (sI (sL s 8 (ix a1) (((gL s 8 (ix a1)) * (6364136223846793005 : Int64)) + (1442695040888963407 : Int64))) 3 (ix a1) (Int64.toInt32 (XT.ushrL (((gL s 8 (ix a1)) * (6364136223846793005 : Int64)) + (1442695040888963407 : Int64)) (63 : Int32)))) 9 (ix a1) ((gI s 9 (ix a1)) + (1 : Int32)))) rfl rfl (by decide) h547.1 rfl ?_
  have h548 := h547.2
  exact wpc_ret rfl rfl (fun q => absurd q (by decide)) rfl ⟨rfl, h548⟩
theorem c46_in (a1 : Int32) (a2 : Int32) (a3 : Int32) (s : St) (Q : Int32 → St → Prop) (h : ((a1 = (0 : Int32)) → Q a2 s) ∧ (¬ (a1 = (0 : Int32)) → Q a3 s)) : calI PP 46 11 [.ref 0, .int a1, .int a2, .int a3] s Q := by
  refine cal_of (me := cm46) (ls := [some (.ref 0), some (.int a1), some (.int a2), some (.int a3)]) rfl (Nat.le_of_ble_eq_true rfl) rfl ?_
  refine wpc_sl (n := 1) (c' := 11) (pc' := 1) (ls' := [some (.ref 0), some (.int a1), some (.int a2), some (.int a3)]) (st' := [.int a1]) (s' := s) rfl ?_
  refine wpc_if (a := 6) (b := 4) rfl (by decide) rfl rfl (wpc_br (p := a1 = (0 : Int32)) ⟨fun hc549 => ?_, fun hc549 => ?_⟩)
  · have h550 := h.1 hc549
    refine wpc_sl (n := 1) (c' := 11) (pc' := 5) (ls' := [some (.ref 0), some (.int a1), some (.int a2), some (.int a3)]) (st' := [.int a2]) (s' := s) rfl ?_
    exact wpc_ret rfl rfl (fun q => absurd q (by decide)) rfl ⟨a2, rfl, h550⟩
  · have h551 := h.2 hc549
    refine wpc_sl (n := 1) (c' := 11) (pc' := 7) (ls' := [some (.ref 0), some (.int a1), some (.int a2), some (.int a3)]) (st' := [.int a3]) (s' := s) rfl ?_
    exact wpc_ret rfl rfl (fun q => absurd q (by decide)) rfl ⟨a3, rfl, h551⟩
theorem c49_in (a1 : Int32) (a2 : Int32) (a3 : Int32) (a4 : Int32) (s : St) (Q : St → Prop) (h : inb 7 a1 ∧ (((gI s 6 (ix a1)) = (-1 : Int32)) → ((a4 < ((gI s 0 19) + (1 : Int32))) → wpcV PP 49 cm49 11 35 [some (.ref 0), some (.int a1), none, some (.int a3), none] [] s Q) ∧ (¬ (a4 < ((gI s 0 19) + (1 : Int32))) → inb 7 a1 ∧ inb 7 a1 ∧ wpcV PP 49 cm49 11 35 [some (.ref 0), some (.int a1), none, some (.int a3), none] [] (sI (sI s 6 (ix a1) a3) 7 (ix a1) a2) Q)) ∧ (¬ ((gI s 6 (ix a1)) = (-1 : Int32)) → wpcV PP 49 cm49 11 35 [some (.ref 0), some (.int a1), none, some (.int a3), none] [] s Q)) : calV PP 49 11 [.ref 0, .int a1, .int a2, .int a3, .int a4] s Q := by
  refine cal_of (me := cm49) (ls := [some (.ref 0), some (.int a1), some (.int a2), some (.int a3), some (.int a4)]) rfl (Nat.le_of_ble_eq_true rfl) rfl ?_
  refine wpc_sl (n := 3) (c' := 11) (pc' := 5) (ls' := [some (.ref 0), some (.int a1), some (.int a2), some (.int a3), some (.int a4)]) (st' := [.int a1, .ref 6]) (s' := s) rfl ?_
  refine wpc_ldaI (a := 5) (N := 7) (v := (gI s 6 (ix a1))) rfl rfl (by decide) h.1 rfl ?_
  have h552 := h.2
  refine wpc_sl (n := 1) (c' := 11) (pc' := 7) (ls' := [some (.ref 0), some (.int a1), some (.int a2), some (.int a3), some (.int a4)]) (st' := [.int (-1 : Int32), .int (gI s 6 (ix a1))]) (s' := s) rfl ?_
  refine wpc_icmp (a := 35) (b := 10) rfl (by decide) rfl rfl (wpc_br (p := (gI s 6 (ix a1)) = (-1 : Int32)) ⟨fun hc553 => ?_, fun hc553 => ?_⟩)
  · have h554 := h552.1 hc553
    refine wpc_sl (n := 5) (c' := 11) (pc' := 18) (ls' := [some (.ref 0), some (.int a1), some (.int a2), some (.int a3), some (.int a4)]) (st' := [.int ((gI s 0 19) + (1 : Int32)), .int a4]) (s' := s) rfl ?_
    refine wpc_icmp (a := 35) (b := 21) rfl (by decide) rfl rfl (wpc_br (p := a4 < ((gI s 0 19) + (1 : Int32))) ⟨fun hc556 => ?_, fun hc556 => ?_⟩)
    · have h557 := h554.1 hc556
      exact wpc_lle (ls := [some (.ref 0), some (.int a1), none, some (.int a3), none]) ⟨rfl, rfl, rfl, trivial⟩ h557
    · have h558 := h554.2 hc556
      refine wpc_sl (n := 4) (c' := 11) (pc' := 27) (ls' := [some (.ref 0), some (.int a1), some (.int a2), some (.int a3), some (.int a4)]) (st' := [.int a3, .int a1, .ref 6]) (s' := s) rfl ?_
      refine wpc_staI (a := 5) (N := 7) (s' := (sI s 6 (ix a1) a3)) rfl rfl (by decide) h558.1 rfl ?_
      have h559 := h558.2
      refine wpc_sl (n := 4) (c' := 11) (pc' := 34) (ls' := [some (.ref 0), some (.int a1), some (.int a2), some (.int a3), some (.int a4)]) (st' := [.int a2, .int a1, .ref 7]) (s' := (sI s 6 (ix a1) a3)) rfl ?_
      refine wpc_staI (a := 6) (N := 7) (s' := (sI (sI s 6 (ix a1) a3) 7 (ix a1) a2)) rfl rfl (by decide) h559.1 rfl ?_
      have h560 := h559.2
      exact wpc_lle (ls := [some (.ref 0), some (.int a1), none, some (.int a3), none]) ⟨rfl, rfl, rfl, trivial⟩ h560
  · have h555 := h552.2 hc553
    exact wpc_lle (ls := [some (.ref 0), some (.int a1), none, some (.int a3), none]) ⟨rfl, rfl, rfl, trivial⟩ h555
theorem c49_35 (x1 : Int32) (x3 : Int32) (s : St) (Q : St → Prop) (h : inb 7 x1 ∧ Q (sI s 3 (ix x1) x3)) : wpcV PP 49 cm49 11 35 [some (.ref 0), some (.int x1), none, some (.int x3), none] [] s Q := by
  refine wpc_sl (n := 4) (c' := 11) (pc' := 41) (ls' := [some (.ref 0), some (.int x1), none, some (.int x3), none]) (st' := [.int x3, .int x1, .ref 3]) (s' := s) rfl ?_
  refine wpc_staI (a := 2) (N := 7) (s' := (sI s 3 (ix x1) x3)) rfl rfl (by decide) h.1 rfl ?_
  have h561 := h.2
  exact wpc_ret rfl rfl (fun q => absurd q (by decide)) rfl ⟨rfl, h561⟩
theorem c51_in (a1 : Int32) (a2 : Int32) (s : St) (Q : St → Prop) (h : inb 7 a1 ∧ inb 7 a1 ∧ inb 7 a1 ∧ calV PP 36 11 [.ref 0, .int a1, .int a2, .int (0 : Int32), .int (gI s 3 (ix a1))] (sI (sI s 4 (ix a1) a2) 5 (ix a1) (0 : Int32)) (fun s565 => Q s565)) : calV PP 51 11 [.ref 0, .int a1, .int a2] s Q := by
  refine cal_of (me := cm51) (ls := [some (.ref 0), some (.int a1), some (.int a2)]) rfl (Nat.le_of_ble_eq_true rfl) rfl ?_
  refine wpc_sl (n := 4) (c' := 11) (pc' := 6) (ls' := [some (.ref 0), some (.int a1), some (.int a2)]) (st' := [.int a2, .int a1, .ref 4]) (s' := s) rfl ?_
  refine wpc_staI (a := 3) (N := 7) (s' := (sI s 4 (ix a1) a2)) rfl rfl (by decide) h.1 rfl ?_
  have h562 := h.2
  refine wpc_sl (n := 4) (c' := 11) (pc' := 13) (ls' := [some (.ref 0), some (.int a1), some (.int a2)]) (st' := [.int (0 : Int32), .int a1, .ref 5]) (s' := (sI s 4 (ix a1) a2)) rfl ?_
  refine wpc_staI (a := 4) (N := 7) (s' := (sI (sI s 4 (ix a1) a2) 5 (ix a1) (0 : Int32))) rfl rfl (by decide) h562.1 rfl ?_
  have h563 := h562.2
  refine wpc_sl (n := 7) (c' := 11) (pc' := 23) (ls' := [some (.ref 0), some (.int a1), some (.int a2)]) (st' := [.int a1, .ref 3, .int (0 : Int32), .int a2, .int a1, .ref 0]) (s' := (sI (sI s 4 (ix a1) a2) 5 (ix a1) (0 : Int32))) rfl ?_
  refine wpc_ldaI (a := 2) (N := 7) (v := (gI s 3 (ix a1))) rfl rfl (by decide) h563.1 rfl ?_
  have h564 := h563.2
  refine wpc_callV (m' := 36) (me' := cm36) (as := [.int a1, .int a2, .int (0 : Int32), .int (gI s 3 (ix a1))]) (r := []) rfl rfl rfl rfl rfl ⟨by decide, (by first | decide | exact Nat.le_of_ble_eq_true rfl), (by first | decide | exact Nat.le_of_ble_eq_true rfl), rfl⟩ (calV.mono h564 fun s565 h567 => ?_)
  exact wpc_ret rfl rfl (fun q => absurd q (by decide)) rfl ⟨rfl, h567⟩
theorem c48_in (a1 : Int32) (a2 : Int32) (a3 : Int32) (a4 : Int32) (s : St) (Q : Int32 → St → Prop) (h : calI PP 45 11 [.ref 0, .int a3, .int a4] s (fun v514 s513 => ((v514 = (-1 : Int32)) → calV PP 50 11 [.ref 0, .int a1] s513 (fun s519 => wpcI PP 48 cm48 11 44 [some (.ref 0), some (.int a1), some (.int a2), none, none, none, none] [] s519 Q)) ∧ (¬ (v514 = (-1 : Int32)) → calI PP 46 11 [.ref 0, .int v514, .int a3, .int a4] s513 (fun v523 s522 => calV PP 49 11 [.ref 0, .int a1, .int a2, .int v514, .int v523] s522 (fun s525 => wpcI PP 48 cm48 11 44 [some (.ref 0), some (.int a1), some (.int a2), none, none, none, none] [] s525 Q))))) : calI PP 48 11 [.ref 0, .int a1, .int a2, .int a3, .int a4] s Q := by
  refine cal_of (me := cm48) (ls := [some (.ref 0), some (.int a1), some (.int a2), some (.int a3), some (.int a4), none, none]) rfl (Nat.le_of_ble_eq_true rfl) rfl ?_
  refine wpc_sl (n := 3) (c' := 11) (pc' := 4) (ls' := [some (.ref 0), some (.int a1), some (.int a2), some (.int a3), some (.int a4), none, none]) (st' := [.int a4, .int a3, .ref 0]) (s' := s) rfl ?_
  refine wpc_callI (m' := 45) (me' := cm45) (as := [.int a3, .int a4]) (r := []) rfl rfl rfl rfl rfl ⟨by decide, (by first | decide | exact Nat.le_of_ble_eq_true rfl), (by first | decide | exact Nat.le_of_ble_eq_true rfl), rfl⟩ (calI.mono h fun v514 s513 h515 => ?_)
  refine wpc_sl (n := 3) (c' := 11) (pc' := 12) (ls' := [some (.ref 0), some (.int a1), some (.int a2), some (.int a3), some (.int a4), some (.int v514), none]) (st' := [.int (-1 : Int32), .int v514]) (s' := s513) rfl ?_
  refine wpc_icmp (a := 23) (b := 15) rfl (by decide) rfl rfl (wpc_br (p := v514 = (-1 : Int32)) ⟨fun hc516 => ?_, fun hc516 => ?_⟩)
  · have h517 := h515.1 hc516
    refine wpc_sl (n := 2) (c' := 11) (pc' := 17) (ls' := [some (.ref 0), some (.int a1), some (.int a2), some (.int a3), some (.int a4), some (.int v514), none]) (st' := [.int a1, .ref 0]) (s' := s513) rfl ?_
    refine wpc_callV (m' := 50) (me' := cm50) (as := [.int a1]) (r := []) rfl rfl rfl rfl rfl ⟨by decide, (by first | decide | exact Nat.le_of_ble_eq_true rfl), (by first | decide | exact Nat.le_of_ble_eq_true rfl), rfl⟩ (calV.mono h517 fun s519 h521 => ?_)
    refine wpc_sl (n := 1) (c' := 11) (pc' := 44) (ls' := [some (.ref 0), some (.int a1), some (.int a2), some (.int a3), some (.int a4), some (.int v514), none]) (st' := []) (s' := s519) rfl ?_
    exact wpc_lle (ls := [some (.ref 0), some (.int a1), some (.int a2), none, none, none, none]) ⟨rfl, rfl, rfl, trivial⟩ h521
  · have h518 := h515.2 hc516
    refine wpc_sl (n := 4) (c' := 11) (pc' := 29) (ls' := [some (.ref 0), some (.int a1), some (.int a2), some (.int a3), some (.int a4), some (.int v514), none]) (st' := [.int a4, .int a3, .int v514, .ref 0]) (s' := s513) rfl ?_
    refine wpc_callI (m' := 46) (me' := cm46) (as := [.int v514, .int a3, .int a4]) (r := []) rfl rfl rfl rfl rfl ⟨by decide, (by first | decide | exact Nat.le_of_ble_eq_true rfl), (by first | decide | exact Nat.le_of_ble_eq_true rfl), rfl⟩ (calI.mono h518 fun v523 s522 h524 => ?_)
    refine wpc_sl (n := 6) (c' := 11) (pc' := 41) (ls' := [some (.ref 0), some (.int a1), some (.int a2), some (.int a3), some (.int a4), some (.int v514), some (.int v523)]) (st' := [.int v523, .int v514, .int a2, .int a1, .ref 0]) (s' := s522) rfl ?_
    refine wpc_callV (m' := 49) (me' := cm49) (as := [.int a1, .int a2, .int v514, .int v523]) (r := []) rfl rfl rfl rfl rfl ⟨by decide, (by first | decide | exact Nat.le_of_ble_eq_true rfl), (by first | decide | exact Nat.le_of_ble_eq_true rfl), rfl⟩ (calV.mono h524 fun s525 h527 => ?_)
    exact wpc_lle (ls := [some (.ref 0), some (.int a1), some (.int a2), none, none, none, none]) ⟨rfl, rfl, rfl, trivial⟩ h527
theorem c48_44 (x1 : Int32) (x2 : Int32) (s : St) (Q : Int32 → St → Prop) (h : ((x2 = (gI s 0 20)) → inb 7 x1 ∧ Q (0 : Int32) (sI s 1 (ix x1) (2 : Int32))) ∧ (¬ (x2 = (gI s 0 20)) → calV PP 51 11 [.ref 0, .int x1, .int (x2 + (1 : Int32))] s (fun s532 => Q (1 : Int32) s532))) : wpcI PP 48 cm48 11 44 [some (.ref 0), some (.int x1), some (.int x2), none, none, none, none] [] s Q := by
  refine wpc_sl (n := 3) (c' := 11) (pc' := 49) (ls' := [some (.ref 0), some (.int x1), some (.int x2), none, none, none, none]) (st' := [.int (gI s 0 20), .int x2]) (s' := s) rfl ?_
  refine wpc_icmp (a := 61) (b := 52) rfl (by decide) rfl rfl (wpc_br (p := x2 = (gI s 0 20)) ⟨fun hc528 => ?_, fun hc528 => ?_⟩)
  · have h529 := h.1 hc528
    refine wpc_sl (n := 4) (c' := 11) (pc' := 58) (ls' := [some (.ref 0), some (.int x1), some (.int x2), none, none, none, none]) (st' := [.int (2 : Int32), .int x1, .ref 1]) (s' := s) rfl ?_
    refine wpc_staI (a := 0) (N := 7) (s' := (sI s 1 (ix x1) (2 : Int32))) rfl rfl (by decide) h529.1 rfl ?_
    have h531 := h529.2
    refine wpc_sl (n := 1) (c' := 11) (pc' := 60) (ls' := [some (.ref 0), some (.int x1), some (.int x2), none, none, none, none]) (st' := [.int (0 : Int32)]) (s' := (sI s 1 (ix x1) (2 : Int32))) rfl ?_
    exact wpc_ret rfl rfl (fun q => absurd q (by decide)) rfl ⟨(0 : Int32), rfl, h531⟩
  · have h530 := h.2 hc528
    refine wpc_sl (n := 5) (c' := 11) (pc' := 66) (ls' := [some (.ref 0), some (.int x1), some (.int x2), none, none, none, none]) (st' := [.int (x2 + (1 : Int32)), .int x1, .ref 0]) (s' := s) rfl ?_
    refine wpc_callV (m' := 51) (me' := cm51) (as := [.int x1, .int (x2 + (1 : Int32))]) (r := []) rfl rfl rfl rfl rfl ⟨by decide, (by first | decide | exact Nat.le_of_ble_eq_true rfl), (by first | decide | exact Nat.le_of_ble_eq_true rfl), rfl⟩ (calV.mono h530 fun s532 h534 => ?_)
    refine wpc_sl (n := 1) (c' := 11) (pc' := 70) (ls' := [some (.ref 0), some (.int x1), some (.int x2), none, none, none, none]) (st' := [.int (1 : Int32)]) (s' := s532) rfl ?_
    exact wpc_ret rfl rfl (fun q => absurd q (by decide)) rfl ⟨(1 : Int32), rfl, h534⟩
theorem c43_in (a1 : Int32) (s : St) (Q : Int32 → St → Prop) (h : inb 7 a1 ∧ (((gI s 1 (ix a1)) = (1 : Int32)) → inb 7 a1 ∧ inb 7 a1 ∧ calI PP 22 11 [.ref 0, .int (gI s 4 (ix a1))] s (fun v422 s421 => ((v422 = (0 : Int32)) → Q (0 : Int32) s421) ∧ (¬ (v422 = (0 : Int32)) → calI PP 23 11 [.ref 0, .int (gI s 5 (ix a1))] s421 (fun v428 s427 => ((v428 = (0 : Int32)) → Q (0 : Int32) s427) ∧ (¬ (v428 = (0 : Int32)) → calI PP 40 11 [.ref 0, .int a1, .int (gI s 4 (ix a1)), .int (gI s 5 (ix a1))] s427 (fun v434 s433 => ((v434 < (gI s433 0 21)) → Q (0 : Int32) s433) ∧ (¬ (v434 < (gI s433 0 21)) → calI PP 41 11 [.ref 0, .int a1, .int (gI s 4 (ix a1)), .int (gI s 5 (ix a1)), .int (0 : Int32)] s433 (fun v440 s439 => calI PP 41 11 [.ref 0, .int a1, .int (gI s 4 (ix a1)), .int (gI s 5 (ix a1)), .int (1 : Int32)] s439 (fun v443 s442 => (((gI s 5 (ix a1)) = (0 : Int32)) → calV PP 47 11 [.ref 0, .int a1, .int (gI s 4 (ix a1)), .int v440, .int v443] s442 (fun s448 => Q (1 : Int32) s448)) ∧ (¬ ((gI s 5 (ix a1)) = (0 : Int32)) → calI PP 48 11 [.ref 0, .int a1, .int (gI s 4 (ix a1)), .int v440, .int v443] s442 (fun v452 s451 => Q (v452 &&& 1) s451))))))))))) ∧ (¬ ((gI s 1 (ix a1)) = (1 : Int32)) → Q (0 : Int32) s)) : calI PP 43 11 [.ref 0, .int a1] s Q := by
  refine cal_of (me := cm43) (ls := [some (.ref 0), some (.int a1), none, none, none, none]) rfl (Nat.le_of_ble_eq_true rfl) rfl ?_
  refine wpc_sl (n := 3) (c' := 11) (pc' := 5) (ls' := [some (.ref 0), some (.int a1), none, none, none, none]) (st' := [.int a1, .ref 1]) (s' := s) rfl ?_
  refine wpc_ldaI (a := 0) (N := 7) (v := (gI s 1 (ix a1))) rfl rfl (by decide) h.1 rfl ?_
  have h415 := h.2
  refine wpc_sl (n := 1) (c' := 11) (pc' := 7) (ls' := [some (.ref 0), some (.int a1), none, none, none, none]) (st' := [.int (1 : Int32), .int (gI s 1 (ix a1))]) (s' := s) rfl ?_
  refine wpc_icmp (a := 12) (b := 10) rfl (by decide) rfl rfl (wpc_br (p := (gI s 1 (ix a1)) = (1 : Int32)) ⟨fun hc416 => ?_, fun hc416 => ?_⟩)
  · have h417 := h415.1 hc416
    refine wpc_sl (n := 3) (c' := 11) (pc' := 17) (ls' := [some (.ref 0), some (.int a1), none, none, none, none]) (st' := [.int a1, .ref 4]) (s' := s) rfl ?_
    refine wpc_ldaI (a := 3) (N := 7) (v := (gI s 4 (ix a1))) rfl rfl (by decide) h417.1 rfl ?_
    have h419 := h417.2
    refine wpc_sl (n := 4) (c' := 11) (pc' := 24) (ls' := [some (.ref 0), some (.int a1), some (.int (gI s 4 (ix a1))), none, none, none]) (st' := [.int a1, .ref 5]) (s' := s) rfl ?_
    refine wpc_ldaI (a := 4) (N := 7) (v := (gI s 5 (ix a1))) rfl rfl (by decide) h419.1 rfl ?_
    have h420 := h419.2
    refine wpc_sl (n := 3) (c' := 11) (pc' := 28) (ls' := [some (.ref 0), some (.int a1), some (.int (gI s 4 (ix a1))), some (.int (gI s 5 (ix a1))), none, none]) (st' := [.int (gI s 4 (ix a1)), .ref 0]) (s' := s) rfl ?_
    refine wpc_callI (m' := 22) (me' := cm22) (as := [.int (gI s 4 (ix a1))]) (r := []) rfl rfl rfl rfl rfl ⟨by decide, (by first | decide | exact Nat.le_of_ble_eq_true rfl), (by first | decide | exact Nat.le_of_ble_eq_true rfl), rfl⟩ (calI.mono h420 fun v422 s421 h423 => ?_)
    refine wpc_if (a := 42) (b := 34) rfl (by decide) rfl rfl (wpc_br (p := v422 = (0 : Int32)) ⟨fun hc424 => ?_, fun hc424 => ?_⟩)
    · have h425 := h423.1 hc424
      refine wpc_sl (n := 1) (c' := 11) (pc' := 43) (ls' := [some (.ref 0), some (.int a1), some (.int (gI s 4 (ix a1))), some (.int (gI s 5 (ix a1))), none, none]) (st' := [.int (0 : Int32)]) (s' := s421) rfl ?_
      exact wpc_ret rfl rfl (fun q => absurd q (by decide)) rfl ⟨(0 : Int32), rfl, h425⟩
    · have h426 := h423.2 hc424
      refine wpc_sl (n := 2) (c' := 11) (pc' := 36) (ls' := [some (.ref 0), some (.int a1), some (.int (gI s 4 (ix a1))), some (.int (gI s 5 (ix a1))), none, none]) (st' := [.int (gI s 5 (ix a1)), .ref 0]) (s' := s421) rfl ?_
      refine wpc_callI (m' := 23) (me' := cm23) (as := [.int (gI s 5 (ix a1))]) (r := []) rfl rfl rfl rfl rfl ⟨by decide, (by first | decide | exact Nat.le_of_ble_eq_true rfl), (by first | decide | exact Nat.le_of_ble_eq_true rfl), rfl⟩ (calI.mono h426 fun v428 s427 h429 => ?_)
      refine wpc_if (a := 44) (b := 42) rfl (by decide) rfl rfl (wpc_br (p := v428 = (0 : Int32)) ⟨fun hc430 => ?_, fun hc430 => ?_⟩)
      · have h431 := h429.1 hc430
        refine wpc_sl (n := 1) (c' := 11) (pc' := 43) (ls' := [some (.ref 0), some (.int a1), some (.int (gI s 4 (ix a1))), some (.int (gI s 5 (ix a1))), none, none]) (st' := [.int (0 : Int32)]) (s' := s427) rfl ?_
        exact wpc_ret rfl rfl (fun q => absurd q (by decide)) rfl ⟨(0 : Int32), rfl, h431⟩
      · have h432 := h429.2 hc430
        refine wpc_sl (n := 4) (c' := 11) (pc' := 48) (ls' := [some (.ref 0), some (.int a1), some (.int (gI s 4 (ix a1))), some (.int (gI s 5 (ix a1))), none, none]) (st' := [.int (gI s 5 (ix a1)), .int (gI s 4 (ix a1)), .int a1, .ref 0]) (s' := s427) rfl ?_
        refine wpc_callI (m' := 40) (me' := cm40) (as := [.int a1, .int (gI s 4 (ix a1)), .int (gI s 5 (ix a1))]) (r := []) rfl rfl rfl rfl rfl ⟨by decide, (by first | decide | exact Nat.le_of_ble_eq_true rfl), (by first | decide | exact Nat.le_of_ble_eq_true rfl), rfl⟩ (calI.mono h432 fun v434 s433 h435 => ?_)
        refine wpc_sl (n := 2) (c' := 11) (pc' := 55) (ls' := [some (.ref 0), some (.int a1), some (.int (gI s 4 (ix a1))), some (.int (gI s 5 (ix a1))), none, none]) (st' := [.int (gI s433 0 21), .int v434]) (s' := s433) rfl ?_
        refine wpc_icmp (a := 60) (b := 58) rfl (by decide) rfl rfl (wpc_br (p := v434 < (gI s433 0 21)) ⟨fun hc436 => ?_, fun hc436 => ?_⟩)
        · have h437 := h435.1 hc436
          refine wpc_sl (n := 1) (c' := 11) (pc' := 59) (ls' := [some (.ref 0), some (.int a1), some (.int (gI s 4 (ix a1))), some (.int (gI s 5 (ix a1))), none, none]) (st' := [.int (0 : Int32)]) (s' := s433) rfl ?_
          exact wpc_ret rfl rfl (fun q => absurd q (by decide)) rfl ⟨(0 : Int32), rfl, h437⟩
        · have h438 := h435.2 hc436
          refine wpc_sl (n := 5) (c' := 11) (pc' := 65) (ls' := [some (.ref 0), some (.int a1), some (.int (gI s 4 (ix a1))), some (.int (gI s 5 (ix a1))), none, none]) (st' := [.int (0 : Int32), .int (gI s 5 (ix a1)), .int (gI s 4 (ix a1)), .int a1, .ref 0]) (s' := s433) rfl ?_
          refine wpc_callI (m' := 41) (me' := cm41) (as := [.int a1, .int (gI s 4 (ix a1)), .int (gI s 5 (ix a1)), .int (0 : Int32)]) (r := []) rfl rfl rfl rfl rfl ⟨by decide, (by first | decide | exact Nat.le_of_ble_eq_true rfl), (by first | decide | exact Nat.le_of_ble_eq_true rfl), rfl⟩ (calI.mono h438 fun v440 s439 h441 => ?_)
          refine wpc_sl (n := 6) (c' := 11) (pc' := 75) (ls' := [some (.ref 0), some (.int a1), some (.int (gI s 4 (ix a1))), some (.int (gI s 5 (ix a1))), some (.int v440), none]) (st' := [.int (1 : Int32), .int (gI s 5 (ix a1)), .int (gI s 4 (ix a1)), .int a1, .ref 0]) (s' := s439) rfl ?_
          refine wpc_callI (m' := 41) (me' := cm41) (as := [.int a1, .int (gI s 4 (ix a1)), .int (gI s 5 (ix a1)), .int (1 : Int32)]) (r := []) rfl rfl rfl rfl rfl ⟨by decide, (by first | decide | exact Nat.le_of_ble_eq_true rfl), (by first | decide | exact Nat.le_of_ble_eq_true rfl), rfl⟩ (calI.mono h441 fun v443 s442 h444 => ?_)
          refine wpc_sl (n := 2) (c' := 11) (pc' := 81) (ls' := [some (.ref 0), some (.int a1), some (.int (gI s 4 (ix a1))), some (.int (gI s 5 (ix a1))), some (.int v440), some (.int v443)]) (st' := [.int (gI s 5 (ix a1))]) (s' := s442) rfl ?_
          refine wpc_if (a := 96) (b := 84) rfl (by decide) rfl rfl (wpc_br (p := (gI s 5 (ix a1)) = (0 : Int32)) ⟨fun hc445 => ?_, fun hc445 => ?_⟩)
          · have h446 := h444.1 hc445
            refine wpc_sl (n := 5) (c' := 11) (pc' := 91) (ls' := [some (.ref 0), some (.int a1), some (.int (gI s 4 (ix a1))), some (.int (gI s 5 (ix a1))), some (.int v440), some (.int v443)]) (st' := [.int v443, .int v440, .int (gI s 4 (ix a1)), .int a1, .ref 0]) (s' := s442) rfl ?_
            refine wpc_callV (m' := 47) (me' := cm47) (as := [.int a1, .int (gI s 4 (ix a1)), .int v440, .int v443]) (r := []) rfl rfl rfl rfl rfl ⟨by decide, (by first | decide | exact Nat.le_of_ble_eq_true rfl), (by first | decide | exact Nat.le_of_ble_eq_true rfl), rfl⟩ (calV.mono h446 fun s448 h450 => ?_)
            refine wpc_sl (n := 1) (c' := 11) (pc' := 95) (ls' := [some (.ref 0), some (.int a1), some (.int (gI s 4 (ix a1))), some (.int (gI s 5 (ix a1))), some (.int v440), some (.int v443)]) (st' := [.int (1 : Int32)]) (s' := s448) rfl ?_
            exact wpc_ret rfl rfl (fun q => absurd q (by decide)) rfl ⟨(1 : Int32), rfl, h450⟩
          · have h447 := h444.2 hc445
            refine wpc_sl (n := 5) (c' := 11) (pc' := 103) (ls' := [some (.ref 0), some (.int a1), some (.int (gI s 4 (ix a1))), some (.int (gI s 5 (ix a1))), some (.int v440), some (.int v443)]) (st' := [.int v443, .int v440, .int (gI s 4 (ix a1)), .int a1, .ref 0]) (s' := s442) rfl ?_
            refine wpc_callI (m' := 48) (me' := cm48) (as := [.int a1, .int (gI s 4 (ix a1)), .int v440, .int v443]) (r := []) rfl rfl rfl rfl rfl ⟨by decide, (by first | decide | exact Nat.le_of_ble_eq_true rfl), (by first | decide | exact Nat.le_of_ble_eq_true rfl), rfl⟩ (calI.mono h447 fun v452 s451 h453 => ?_)
            exact wpc_ret rfl rfl (fun q => absurd q (by decide)) rfl ⟨(v452 &&& 1), rfl, h453⟩
  · have h418 := h415.2 hc416
    refine wpc_sl (n := 1) (c' := 11) (pc' := 11) (ls' := [some (.ref 0), some (.int a1), none, none, none, none]) (st' := [.int (0 : Int32)]) (s' := s) rfl ?_
    exact wpc_ret rfl rfl (fun q => absurd q (by decide)) rfl ⟨(0 : Int32), rfl, h418⟩
theorem c42_in (a1 : Int32) (s : St) (Q : St → Prop) (h : calI PP 21 11 [.ref 0, .int a1] s (fun v401 s400 => ((v401 = (0 : Int32)) → Q s400) ∧ (¬ (v401 = (0 : Int32)) → wpcV PP 42 cm42 11 20 [some (.ref 0), some (.int a1), some (.int (((2 : Int32) * (gI s400 0 20)) + (2 : Int32))), some (.int (0 : Int32))] [] s400 Q))) : calV PP 42 11 [.ref 0, .int a1] s Q := by
  refine cal_of (me := cm42) (ls := [some (.ref 0), some (.int a1), none, none]) rfl (Nat.le_of_ble_eq_true rfl) rfl ?_
  refine wpc_sl (n := 2) (c' := 11) (pc' := 2) (ls' := [some (.ref 0), some (.int a1), none, none]) (st' := [.int a1, .ref 0]) (s' := s) rfl ?_
  refine wpc_callI (m' := 21) (me' := cm21) (as := [.int a1]) (r := []) rfl rfl rfl rfl rfl ⟨by decide, (by first | decide | exact Nat.le_of_ble_eq_true rfl), (by first | decide | exact Nat.le_of_ble_eq_true rfl), rfl⟩ (calI.mono h fun v401 s400 h402 => ?_)
  refine wpc_if (a := 9) (b := 8) rfl (by decide) rfl rfl (wpc_br (p := v401 = (0 : Int32)) ⟨fun hc403 => ?_, fun hc403 => ?_⟩)
  · have h404 := h402.1 hc403
    exact wpc_ret rfl rfl (fun q => absurd q (by decide)) rfl ⟨rfl, h404⟩
  · have h405 := h402.2 hc403
    refine wpc_sl (n := 9) (c' := 11) (pc' := 20) (ls' := [some (.ref 0), some (.int a1), some (.int (((2 : Int32) * (gI s400 0 20)) + (2 : Int32))), some (.int (0 : Int32))]) (st' := []) (s' := s400) rfl ?_
    exact h405
theorem c42_20 (x1 : Int32) (x2 : Int32) (x3 : Int32) (s : St) (Q : St → Prop) (h : ((x3 < x2) → calI PP 43 11 [.ref 0, .int x1] s (fun v410 s409 => ((v410 = (0 : Int32)) → Q s409) ∧ (¬ (v410 = (0 : Int32)) → wpcV PP 42 cm42 11 20 [some (.ref 0), some (.int x1), some (.int x2), some (.int (x3 + (1 : Int32)))] [] s409 Q))) ∧ (¬ (x3 < x2) → Q s)) : wpcV PP 42 cm42 11 20 [some (.ref 0), some (.int x1), some (.int x2), some (.int x3)] [] s Q := by
  refine wpc_sl (n := 2) (c' := 11) (pc' := 22) (ls' := [some (.ref 0), some (.int x1), some (.int x2), some (.int x3)]) (st' := [.int x2, .int x3]) (s' := s) rfl ?_
  refine wpc_icmp (a := 40) (b := 25) rfl (by decide) rfl rfl (wpc_br (p := x3 < x2) ⟨fun hc406 => ?_, fun hc406 => ?_⟩)
  · have h407 := h.1 hc406
    refine wpc_sl (n := 2) (c' := 11) (pc' := 27) (ls' := [some (.ref 0), some (.int x1), some (.int x2), some (.int x3)]) (st' := [.int x1, .ref 0]) (s' := s) rfl ?_
    refine wpc_callI (m' := 43) (me' := cm43) (as := [.int x1]) (r := []) rfl rfl rfl rfl rfl ⟨by decide, (by first | decide | exact Nat.le_of_ble_eq_true rfl), (by first | decide | exact Nat.le_of_ble_eq_true rfl), rfl⟩ (calI.mono h407 fun v410 s409 h411 => ?_)
    refine wpc_if (a := 34) (b := 33) rfl (by decide) rfl rfl (wpc_br (p := v410 = (0 : Int32)) ⟨fun hc412 => ?_, fun hc412 => ?_⟩)
    · have h413 := h411.1 hc412
      exact wpc_ret rfl rfl (fun q => absurd q (by decide)) rfl ⟨rfl, h413⟩
    · have h414 := h411.2 hc412
      refine wpc_sl (n := 2) (c' := 11) (pc' := 20) (ls' := [some (.ref 0), some (.int x1), some (.int x2), some (.int (x3 + (1 : Int32)))]) (st' := []) (s' := s409) rfl ?_
      exact h414
  · have h408 := h.2 hc406
    exact wpc_ret rfl rfl (fun q => absurd q (by decide)) rfl ⟨rfl, h408⟩
theorem c2_in (a1 : Int32) (a2 : Int32) (a3 : Int32) (a4 : Int32) (s : St) (Q : Int32 → St → Prop) (h : calI PP 21 11 [.ref 0, .int a1] s (fun v287 s286 => ((v287 = (0 : Int32)) → Q (0 : Int32) s286) ∧ (¬ (v287 = (0 : Int32)) → calI PP 24 11 [.ref 0, .int a2] s286 (fun v293 s292 => ((v293 = (0 : Int32)) → Q (0 : Int32) s292) ∧ (¬ (v293 = (0 : Int32)) → inb 7 a1 ∧ (((gI s292 1 (ix a1)) = (0 : Int32)) → inb 7 a1 ∧ inb 7 a1 ∧ calL PP 28 11 [.ref 0, .int a3, .int a4] (sI (sI s292 2 (ix a1) a2) 3 (ix a1) a2) (fun v305 s304 => inb 7 a1 ∧ inb 7 a1 ∧ inb 7 a1 ∧ inb 7 a1 ∧ calV PP 36 11 [.ref 0, .int a1, .int (1 : Int32), .int (0 : Int32), .int a2] (sI (sI (sI (sL s304 8 (ix a1) v305) 1 (ix a1) (1 : Int32)) 4 (ix a1) (1 : Int32)) 5 (ix a1) (0 : Int32)) (fun s311 => calV PP 42 11 [.ref 0, .int a1] s311 (fun s314 => Q (1 : Int32) s314)))) ∧ (¬ ((gI s292 1 (ix a1)) = (0 : Int32)) → Q (0 : Int32) s292)))))) : calI PP 2 11 [.ref 0, .int a1, .int a2, .int a3, .int a4] s Q := by
  refine cal_of (me := cm2) (ls := [some (.ref 0), some (.int a1), some (.int a2), some (.int a3), some (.int a4)]) rfl (Nat.le_of_ble_eq_true rfl) rfl ?_
  refine wpc_sl (n := 2) (c' := 11) (pc' := 2) (ls' := [some (.ref 0), some (.int a1), some (.int a2), some (.int a3), some (.int a4)]) (st' := [.int a1, .ref 0]) (s' := s) rfl ?_
  refine wpc_callI (m' := 21) (me' := cm21) (as := [.int a1]) (r := []) rfl rfl rfl rfl rfl ⟨by decide, (by first | decide | exact Nat.le_of_ble_eq_true rfl), (by first | decide | exact Nat.le_of_ble_eq_true rfl), rfl⟩ (calI.mono h fun v287 s286 h288 => ?_)
  refine wpc_if (a := 10) (b := 8) rfl (by decide) rfl rfl (wpc_br (p := v287 = (0 : Int32)) ⟨fun hc289 => ?_, fun hc289 => ?_⟩)
  · have h290 := h288.1 hc289
    refine wpc_sl (n := 1) (c' := 11) (pc' := 9) (ls' := [some (.ref 0), some (.int a1), some (.int a2), some (.int a3), some (.int a4)]) (st' := [.int (0 : Int32)]) (s' := s286) rfl ?_
    exact wpc_ret rfl rfl (fun q => absurd q (by decide)) rfl ⟨(0 : Int32), rfl, h290⟩
  · have h291 := h288.2 hc289
    refine wpc_sl (n := 2) (c' := 11) (pc' := 12) (ls' := [some (.ref 0), some (.int a1), some (.int a2), some (.int a3), some (.int a4)]) (st' := [.int a2, .ref 0]) (s' := s286) rfl ?_
    refine wpc_callI (m' := 24) (me' := cm24) (as := [.int a2]) (r := []) rfl rfl rfl rfl rfl ⟨by decide, (by first | decide | exact Nat.le_of_ble_eq_true rfl), (by first | decide | exact Nat.le_of_ble_eq_true rfl), rfl⟩ (calI.mono h291 fun v293 s292 h294 => ?_)
    refine wpc_if (a := 20) (b := 18) rfl (by decide) rfl rfl (wpc_br (p := v293 = (0 : Int32)) ⟨fun hc295 => ?_, fun hc295 => ?_⟩)
    · have h296 := h294.1 hc295
      refine wpc_sl (n := 1) (c' := 11) (pc' := 19) (ls' := [some (.ref 0), some (.int a1), some (.int a2), some (.int a3), some (.int a4)]) (st' := [.int (0 : Int32)]) (s' := s292) rfl ?_
      exact wpc_ret rfl rfl (fun q => absurd q (by decide)) rfl ⟨(0 : Int32), rfl, h296⟩
    · have h297 := h294.2 hc295
      refine wpc_sl (n := 3) (c' := 11) (pc' := 25) (ls' := [some (.ref 0), some (.int a1), some (.int a2), some (.int a3), some (.int a4)]) (st' := [.int a1, .ref 1]) (s' := s292) rfl ?_
      refine wpc_ldaI (a := 0) (N := 7) (v := (gI s292 1 (ix a1))) rfl rfl (by decide) h297.1 rfl ?_
      have h298 := h297.2
      refine wpc_if (a := 31) (b := 29) rfl (by decide) rfl rfl (wpc_br (p := (gI s292 1 (ix a1)) = (0 : Int32)) ⟨fun hc299 => ?_, fun hc299 => ?_⟩)
      · have h300 := h298.1 hc299
        refine wpc_sl (n := 4) (c' := 11) (pc' := 37) (ls' := [some (.ref 0), some (.int a1), some (.int a2), some (.int a3), some (.int a4)]) (st' := [.int a2, .int a1, .ref 2]) (s' := s292) rfl ?_
        refine wpc_staI (a := 1) (N := 7) (s' := (sI s292 2 (ix a1) a2)) rfl rfl (by decide) h300.1 rfl ?_
        have h302 := h300.2
        refine wpc_sl (n := 4) (c' := 11) (pc' := 44) (ls' := [some (.ref 0), some (.int a1), some (.int a2), some (.int a3), some (.int a4)]) (st' := [.int a2, .int a1, .ref 3]) (s' := (sI s292 2 (ix a1) a2)) rfl ?_
        refine wpc_staI (a := 2) (N := 7) (s' := (sI (sI s292 2 (ix a1) a2) 3 (ix a1) a2)) rfl rfl (by decide) h302.1 rfl ?_
        have h303 := h302.2
        refine wpc_sl (n := 6) (c' := 11) (pc' := 54) (ls' := [some (.ref 0), some (.int a1), some (.int a2), some (.int a3), some (.int a4)]) (st' := [.int a4, .int a3, .ref 0, .int a1, .ref 8]) (s' := (sI (sI s292 2 (ix a1) a2) 3 (ix a1) a2)) rfl ?_
        refine wpc_callL (m' := 28) (me' := cm28) (as := [.int a3, .int a4]) (r := [.int a1, .ref 8]) rfl rfl rfl rfl rfl ⟨by decide, (by first | decide | exact Nat.le_of_ble_eq_true rfl), (by first | decide | exact Nat.le_of_ble_eq_true rfl), rfl⟩ (calL.mono h303 fun v305 s304 h306 => ?_)
        refine wpc_staJ (a := 7) (N := 7) (s' := (sL s304 8 (ix a1) v305)) rfl rfl (by decide) h306.1 rfl ?_
        have h307 := h306.2
        refine wpc_sl (n := 4) (c' := 11) (pc' := 64) (ls' := [some (.ref 0), some (.int a1), some (.int a2), some (.int a3), some (.int a4)]) (st' := [.int (1 : Int32), .int a1, .ref 1]) (s' := (sL s304 8 (ix a1) v305)) rfl ?_
        refine wpc_staI (a := 0) (N := 7) (s' := (sI (sL s304 8 (ix a1) v305) 1 (ix a1) (1 : Int32))) rfl rfl (by decide) h307.1 rfl ?_
        have h308 := h307.2
        refine wpc_sl (n := 4) (c' := 11) (pc' := 71) (ls' := [some (.ref 0), some (.int a1), some (.int a2), some (.int a3), some (.int a4)]) (st' := [.int (1 : Int32), .int a1, .ref 4]) (s' := (sI (sL s304 8 (ix a1) v305) 1 (ix a1) (1 : Int32))) rfl ?_
        refine wpc_staI (a := 3) (N := 7) (s' := (sI (sI (sL s304 8 (ix a1) v305) 1 (ix a1) (1 : Int32)) 4 (ix a1) (1 : Int32))) rfl rfl (by decide) h308.1 rfl ?_
        have h309 := h308.2
        refine wpc_sl (n := 4) (c' := 11) (pc' := 78) (ls' := [some (.ref 0), some (.int a1), some (.int a2), some (.int a3), some (.int a4)]) (st' := [.int (0 : Int32), .int a1, .ref 5]) (s' := (sI (sI (sL s304 8 (ix a1) v305) 1 (ix a1) (1 : Int32)) 4 (ix a1) (1 : Int32))) rfl ?_
        refine wpc_staI (a := 4) (N := 7) (s' := (sI (sI (sI (sL s304 8 (ix a1) v305) 1 (ix a1) (1 : Int32)) 4 (ix a1) (1 : Int32)) 5 (ix a1) (0 : Int32))) rfl rfl (by decide) h309.1 rfl ?_
        have h310 := h309.2
        refine wpc_sl (n := 5) (c' := 11) (pc' := 84) (ls' := [some (.ref 0), some (.int a1), some (.int a2), some (.int a3), some (.int a4)]) (st' := [.int a2, .int (0 : Int32), .int (1 : Int32), .int a1, .ref 0]) (s' := (sI (sI (sI (sL s304 8 (ix a1) v305) 1 (ix a1) (1 : Int32)) 4 (ix a1) (1 : Int32)) 5 (ix a1) (0 : Int32))) rfl ?_
        refine wpc_callV (m' := 36) (me' := cm36) (as := [.int a1, .int (1 : Int32), .int (0 : Int32), .int a2]) (r := []) rfl rfl rfl rfl rfl ⟨by decide, (by first | decide | exact Nat.le_of_ble_eq_true rfl), (by first | decide | exact Nat.le_of_ble_eq_true rfl), rfl⟩ (calV.mono h310 fun s311 h313 => ?_)
        refine wpc_sl (n := 2) (c' := 11) (pc' := 89) (ls' := [some (.ref 0), some (.int a1), some (.int a2), some (.int a3), some (.int a4)]) (st' := [.int a1, .ref 0]) (s' := s311) rfl ?_
        refine wpc_callV (m' := 42) (me' := cm42) (as := [.int a1]) (r := []) rfl rfl rfl rfl rfl ⟨by decide, (by first | decide | exact Nat.le_of_ble_eq_true rfl), (by first | decide | exact Nat.le_of_ble_eq_true rfl), rfl⟩ (calV.mono h313 fun s314 h316 => ?_)
        refine wpc_sl (n := 1) (c' := 11) (pc' := 93) (ls' := [some (.ref 0), some (.int a1), some (.int a2), some (.int a3), some (.int a4)]) (st' := [.int (1 : Int32)]) (s' := s314) rfl ?_
        exact wpc_ret rfl rfl (fun q => absurd q (by decide)) rfl ⟨(1 : Int32), rfl, h316⟩
      · have h301 := h298.2 hc299
        refine wpc_sl (n := 1) (c' := 11) (pc' := 30) (ls' := [some (.ref 0), some (.int a1), some (.int a2), some (.int a3), some (.int a4)]) (st' := [.int (0 : Int32)]) (s' := s292) rfl ?_
        exact wpc_ret rfl rfl (fun q => absurd q (by decide)) rfl ⟨(0 : Int32), rfl, h301⟩
theorem l3W1_in (N : Nat) (sg : Nat → Int32) (a0 : Int32) (a1 : Int32) (s : St) (Q : Int32 → Wd → Prop) (h : (¬ (a1 = (0 : Int32))) ∧ Q ((a0 &&& (2147483647 : Int32)) % a1) (W1 s)) : lalI PP QQ (some (N, sg)) 3 [.int a0, .int a1] (W1 s) Q := by
  refine lal_of (me := lm3) (ls := [some (.int a0), some (.int a1)]) rfl (Nat.le_of_ble_eq_true rfl) rfl ?_
  refine wpl_sl (n := 4) (pc' := 5) (ls' := [some (.int a0), some (.int a1)]) (st' := [.int a1, .int (a0 &&& (2147483647 : Int32))]) rfl ?_
  refine wpl_irem rfl h.1 ?_
  have h568 := h.2
  exact wpl_ret rfl rfl rfl ⟨((a0 &&& (2147483647 : Int32)) % a1), rfl, h568⟩
theorem c26_in (a1 : Int32) (a2 : Int32) (s : St) (Q : Int32 → St → Prop) (h : ((((XT.ushr a1 a2) &&& (1 : Int32)) = (1 : Int32)) → Q (1 : Int32) s) ∧ (¬ (((XT.ushr a1 a2) &&& (1 : Int32)) = (1 : Int32)) → Q (0 : Int32) s)) : calI PP 26 11 [.ref 0, .int a1, .int a2] s Q := by
  refine cal_of (me := cm26) (ls := [some (.ref 0), some (.int a1), some (.int a2)]) rfl (Nat.le_of_ble_eq_true rfl) rfl ?_
  refine wpc_sl (n := 6) (c' := 11) (pc' := 6) (ls' := [some (.ref 0), some (.int a1), some (.int a2)]) (st' := [.int (1 : Int32), .int ((XT.ushr a1 a2) &&& (1 : Int32))]) (s' := s) rfl ?_
  refine wpc_icmp (a := 13) (b := 9) rfl (by decide) rfl rfl (wpc_br (p := ((XT.ushr a1 a2) &&& (1 : Int32)) = (1 : Int32)) ⟨fun hc593 => ?_, fun hc593 => ?_⟩)
  · have h594 := h.1 hc593
    refine wpc_sl (n := 2) (c' := 11) (pc' := 14) (ls' := [some (.ref 0), some (.int a1), some (.int a2)]) (st' := [.int (1 : Int32)]) (s' := s) rfl ?_
    exact wpc_ret rfl rfl (fun q => absurd q (by decide)) rfl ⟨(1 : Int32), rfl, h594⟩
  · have h595 := h.2 hc593
    refine wpc_sl (n := 1) (c' := 11) (pc' := 14) (ls' := [some (.ref 0), some (.int a1), some (.int a2)]) (st' := [.int (0 : Int32)]) (s' := s) rfl ?_
    exact wpc_ret rfl rfl (fun q => absurd q (by decide)) rfl ⟨(0 : Int32), rfl, h595⟩
theorem c39_in (a1 : Int32) (a2 : Int32) (a3 : Int32) (a4 : Int32) (s : St) (Q : Int32 → St → Prop) (h : inb 7 a2 ∧ (((gI s 1 (ix a2)) = (3 : Int32)) → Q (0 : Int32) s) ∧ (¬ ((gI s 1 (ix a2)) = (3 : Int32)) → calI PP 34 11 [.ref 0, .int a1, .int a2, .int a3, .int a4] s (fun v617 s616 => ((v617 = (1 : Int32)) → calV PP 35 11 [.ref 0, .int a1, .int a2, .int a3, .int a4, .int (2 : Int32)] s616 (fun s622 => calV PP 42 11 [.ref 0, .int a2] s622 (fun s625 => Q (1 : Int32) s625))) ∧ (¬ (v617 = (1 : Int32)) → Q (0 : Int32) s616)))) : calI PP 39 11 [.ref 0, .int a1, .int a2, .int a3, .int a4] s Q := by
  refine cal_of (me := cm39) (ls := [some (.ref 0), some (.int a1), some (.int a2), some (.int a3), some (.int a4)]) rfl (Nat.le_of_ble_eq_true rfl) rfl ?_
  refine wpc_sl (n := 3) (c' := 11) (pc' := 5) (ls' := [some (.ref 0), some (.int a1), some (.int a2), some (.int a3), some (.int a4)]) (st' := [.int a2, .ref 1]) (s' := s) rfl ?_
  refine wpc_ldaI (a := 0) (N := 7) (v := (gI s 1 (ix a2))) rfl rfl (by decide) h.1 rfl ?_
  have h612 := h.2
  refine wpc_sl (n := 1) (c' := 11) (pc' := 7) (ls' := [some (.ref 0), some (.int a1), some (.int a2), some (.int a3), some (.int a4)]) (st' := [.int (3 : Int32), .int (gI s 1 (ix a2))]) (s' := s) rfl ?_
  refine wpc_icmp (a := 12) (b := 10) rfl (by decide) rfl rfl (wpc_br (p := (gI s 1 (ix a2)) = (3 : Int32)) ⟨fun hc613 => ?_, fun hc613 => ?_⟩)
  · have h614 := h612.1 hc613
    refine wpc_sl (n := 1) (c' := 11) (pc' := 11) (ls' := [some (.ref 0), some (.int a1), some (.int a2), some (.int a3), some (.int a4)]) (st' := [.int (0 : Int32)]) (s' := s) rfl ?_
    exact wpc_ret rfl rfl (fun q => absurd q (by decide)) rfl ⟨(0 : Int32), rfl, h614⟩
  · have h615 := h612.2 hc613
    refine wpc_sl (n := 5) (c' := 11) (pc' := 18) (ls' := [some (.ref 0), some (.int a1), some (.int a2), some (.int a3), some (.int a4)]) (st' := [.int a4, .int a3, .int a2, .int a1, .ref 0]) (s' := s) rfl ?_
    refine wpc_callI (m' := 34) (me' := cm34) (as := [.int a1, .int a2, .int a3, .int a4]) (r := []) rfl rfl rfl rfl rfl ⟨by decide, (by first | decide | exact Nat.le_of_ble_eq_true rfl), (by first | decide | exact Nat.le_of_ble_eq_true rfl), rfl⟩ (calI.mono h615 fun v617 s616 h618 => ?_)
    refine wpc_sl (n := 1) (c' := 11) (pc' := 22) (ls' := [some (.ref 0), some (.int a1), some (.int a2), some (.int a3), some (.int a4)]) (st' := [.int (1 : Int32), .int v617]) (s' := s616) rfl ?_
    refine wpc_icmp (a := 27) (b := 25) rfl (by decide) rfl rfl (wpc_br (p := v617 = (1 : Int32)) ⟨fun hc619 => ?_, fun hc619 => ?_⟩)
    · have h620 := h618.1 hc619
      refine wpc_sl (n := 6) (c' := 11) (pc' := 34) (ls' := [some (.ref 0), some (.int a1), some (.int a2), some (.int a3), some (.int a4)]) (st' := [.int (2 : Int32), .int a4, .int a3, .int a2, .int a1, .ref 0]) (s' := s616) rfl ?_
      refine wpc_callV (m' := 35) (me' := cm35) (as := [.int a1, .int a2, .int a3, .int a4, .int (2 : Int32)]) (r := []) rfl rfl rfl rfl rfl ⟨by decide, (by first | decide | exact Nat.le_of_ble_eq_true rfl), (by first | decide | exact Nat.le_of_ble_eq_true rfl), rfl⟩ (calV.mono h620 fun s622 h624 => ?_)
      refine wpc_sl (n := 2) (c' := 11) (pc' := 39) (ls' := [some (.ref 0), some (.int a1), some (.int a2), some (.int a3), some (.int a4)]) (st' := [.int a2, .ref 0]) (s' := s622) rfl ?_
      refine wpc_callV (m' := 42) (me' := cm42) (as := [.int a2]) (r := []) rfl rfl rfl rfl rfl ⟨by decide, (by first | decide | exact Nat.le_of_ble_eq_true rfl), (by first | decide | exact Nat.le_of_ble_eq_true rfl), rfl⟩ (calV.mono h624 fun s625 h627 => ?_)
      refine wpc_sl (n := 1) (c' := 11) (pc' := 43) (ls' := [some (.ref 0), some (.int a1), some (.int a2), some (.int a3), some (.int a4)]) (st' := [.int (1 : Int32)]) (s' := s625) rfl ?_
      exact wpc_ret rfl rfl (fun q => absurd q (by decide)) rfl ⟨(1 : Int32), rfl, h627⟩
    · have h621 := h618.2 hc619
      refine wpc_sl (n := 1) (c' := 11) (pc' := 26) (ls' := [some (.ref 0), some (.int a1), some (.int a2), some (.int a3), some (.int a4)]) (st' := [.int (0 : Int32)]) (s' := s616) rfl ?_
      exact wpc_ret rfl rfl (fun q => absurd q (by decide)) rfl ⟨(0 : Int32), rfl, h621⟩
theorem c38_in (a1 : Int32) (a2 : Int32) (a3 : Int32) (a4 : Int32) (s : St) (Q : Int32 → St → Prop) (h : wpcI PP 38 cm38 11 6 [some (.ref 0), some (.int a1), some (.int a2), some (.int a3), some (.int a4), some (.int (0 : Int32)), some (.int (0 : Int32))] [] s Q) : calI PP 38 11 [.ref 0, .int a1, .int a2, .int a3, .int a4] s Q := by
  refine cal_of (me := cm38) (ls := [some (.ref 0), some (.int a1), some (.int a2), some (.int a3), some (.int a4), none, none]) rfl (Nat.le_of_ble_eq_true rfl) rfl ?_
  refine wpc_sl (n := 4) (c' := 11) (pc' := 6) (ls' := [some (.ref 0), some (.int a1), some (.int a2), some (.int a3), some (.int a4), some (.int (0 : Int32)), some (.int (0 : Int32))]) (st' := []) (s' := s) rfl ?_
  exact h
theorem c38_6 (x1 : Int32) (x2 : Int32) (x3 : Int32) (x4 : Int32) (x5 : Int32) (x6 : Int32) (s : St) (Q : Int32 → St → Prop) (h : ((x6 < (7 : Int32)) → calI PP 26 11 [.ref 0, .int x1, .int x6] s (fun v600 s599 => ((v600 = (0 : Int32)) → wpcI PP 38 cm38 11 39 [some (.ref 0), some (.int x1), some (.int x2), some (.int x3), some (.int x4), some (.int x5), some (.int x6)] [] s599 Q) ∧ (¬ (v600 = (0 : Int32)) → calI PP 39 11 [.ref 0, .int x6, .int x2, .int x3, .int x4] s599 (fun v606 s605 => ∀ m608, m608 = (if v606 = (0 : Int32) then x5 else (x5 + (1 : Int32))) → (wpcI PP 38 cm38 11 39 [some (.ref 0), some (.int x1), some (.int x2), some (.int x3), some (.int x4), some (.int m608), some (.int x6)] [] s605 Q))))) ∧ (¬ (x6 < (7 : Int32)) → Q x5 s)) : wpcI PP 38 cm38 11 6 [some (.ref 0), some (.int x1), some (.int x2), some (.int x3), some (.int x4), some (.int x5), some (.int x6)] [] s Q := by
  refine wpc_sl (n := 2) (c' := 11) (pc' := 10) (ls' := [some (.ref 0), some (.int x1), some (.int x2), some (.int x3), some (.int x4), some (.int x5), some (.int x6)]) (st' := [.int (7 : Int32), .int x6]) (s' := s) rfl ?_
  refine wpc_icmp (a := 45) (b := 13) rfl (by decide) rfl rfl (wpc_br (p := x6 < (7 : Int32)) ⟨fun hc596 => ?_, fun hc596 => ?_⟩)
  · have h597 := h.1 hc596
    refine wpc_sl (n := 3) (c' := 11) (pc' := 17) (ls' := [some (.ref 0), some (.int x1), some (.int x2), some (.int x3), some (.int x4), some (.int x5), some (.int x6)]) (st' := [.int x6, .int x1, .ref 0]) (s' := s) rfl ?_
    refine wpc_callI (m' := 26) (me' := cm26) (as := [.int x1, .int x6]) (r := []) rfl rfl rfl rfl rfl ⟨by decide, (by first | decide | exact Nat.le_of_ble_eq_true rfl), (by first | decide | exact Nat.le_of_ble_eq_true rfl), rfl⟩ (calI.mono h597 fun v600 s599 h601 => ?_)
    refine wpc_if (a := 39) (b := 23) rfl (by decide) rfl rfl (wpc_br (p := v600 = (0 : Int32)) ⟨fun hc602 => ?_, fun hc602 => ?_⟩)
    · have h603 := h601.1 hc602
      exact h603
    · have h604 := h601.2 hc602
      refine wpc_sl (n := 5) (c' := 11) (pc' := 30) (ls' := [some (.ref 0), some (.int x1), some (.int x2), some (.int x3), some (.int x4), some (.int x5), some (.int x6)]) (st' := [.int x4, .int x3, .int x2, .int x6, .ref 0]) (s' := s599) rfl ?_
      refine wpc_callI (m' := 39) (me' := cm39) (as := [.int x6, .int x2, .int x3, .int x4]) (r := []) rfl rfl rfl rfl rfl ⟨by decide, (by first | decide | exact Nat.le_of_ble_eq_true rfl), (by first | decide | exact Nat.le_of_ble_eq_true rfl), rfl⟩ (calI.mono h604 fun v606 s605 h607 => ?_)
      have hm609 : ∀ m608, m608 = (if v606 = (0 : Int32) then x5 else (x5 + (1 : Int32))) → wpcI PP 38 cm38 11 39 [some (.ref 0), some (.int x1), some (.int x2), some (.int x3), some (.int x4), some (.int m608), some (.int x6)] [] s605 Q := by
        intro m608 em608
        have h610 := h607 m608 em608
        exact h610
      refine wpc_if (a := 39) (b := 36) rfl (by decide) rfl rfl (wpc_br (p := v606 = (0 : Int32)) ⟨fun hc611 => ?_, fun hc611 => ?_⟩)
      · first | exact hm609 _ (by simp only [if_pos hc611]) | exact wpc_lle (by repeat (first | exact trivial | refine ⟨rfl, ?_⟩)) (hm609 _ (by simp only [if_pos hc611]))
      · refine wpc_sl (n := 1) (c' := 11) (pc' := 39) (ls' := [some (.ref 0), some (.int x1), some (.int x2), some (.int x3), some (.int x4), some (.int (x5 + (1 : Int32))), some (.int x6)]) (st' := []) (s' := s605) rfl ?_
        first | exact hm609 _ (by simp only [if_neg hc611]) | exact wpc_lle (by repeat (first | exact trivial | refine ⟨rfl, ?_⟩)) (hm609 _ (by simp only [if_neg hc611]))
  · have h598 := h.2 hc596
    refine wpc_sl (n := 1) (c' := 11) (pc' := 47) (ls' := [some (.ref 0), some (.int x1), some (.int x2), some (.int x3), some (.int x4), some (.int x5), some (.int x6)]) (st' := [.int x5]) (s' := s) rfl ?_
    exact wpc_ret rfl rfl (fun q => absurd q (by decide)) rfl ⟨x5, rfl, h598⟩
theorem c38_39 (x1 : Int32) (x2 : Int32) (x3 : Int32) (x4 : Int32) (x5 : Int32) (x6 : Int32) (s : St) (Q : Int32 → St → Prop) (h : wpcI PP 38 cm38 11 6 [some (.ref 0), some (.int x1), some (.int x2), some (.int x3), some (.int x4), some (.int x5), some (.int (x6 + (1 : Int32)))] [] s Q) : wpcI PP 38 cm38 11 39 [some (.ref 0), some (.int x1), some (.int x2), some (.int x3), some (.int x4), some (.int x5), some (.int x6)] [] s Q := by
  refine wpc_sl (n := 2) (c' := 11) (pc' := 6) (ls' := [some (.ref 0), some (.int x1), some (.int x2), some (.int x3), some (.int x4), some (.int x5), some (.int (x6 + (1 : Int32)))]) (st' := []) (s' := s) rfl ?_
  exact h
theorem c3_in (a1 : Int32) (a2 : Int32) (a3 : Int32) (a4 : Int32) (s : St) (Q : Int32 → St → Prop) (h : calI PP 22 11 [.ref 0, .int a3] s (fun v570 s569 => ((v570 = (0 : Int32)) → Q (0 : Int32) s569) ∧ (¬ (v570 = (0 : Int32)) → calI PP 23 11 [.ref 0, .int a4] s569 (fun v576 s575 => ((v576 = (0 : Int32)) → Q (0 : Int32) s575) ∧ (¬ (v576 = (0 : Int32)) → wpcI PP 3 cm3 11 27 [some (.ref 0), some (.int a1), some (.int a2), some (.int a3), some (.int a4), some (.int (0 : Int32)), some (.int (0 : Int32))] [] s575 Q))))) : calI PP 3 11 [.ref 0, .int a1, .int a2, .int a3, .int a4] s Q := by
  refine cal_of (me := cm3) (ls := [some (.ref 0), some (.int a1), some (.int a2), some (.int a3), some (.int a4), none, none]) rfl (Nat.le_of_ble_eq_true rfl) rfl ?_
  refine wpc_sl (n := 2) (c' := 11) (pc' := 2) (ls' := [some (.ref 0), some (.int a1), some (.int a2), some (.int a3), some (.int a4), none, none]) (st' := [.int a3, .ref 0]) (s' := s) rfl ?_
  refine wpc_callI (m' := 22) (me' := cm22) (as := [.int a3]) (r := []) rfl rfl rfl rfl rfl ⟨by decide, (by first | decide | exact Nat.le_of_ble_eq_true rfl), (by first | decide | exact Nat.le_of_ble_eq_true rfl), rfl⟩ (calI.mono h fun v570 s569 h571 => ?_)
  refine wpc_if (a := 10) (b := 8) rfl (by decide) rfl rfl (wpc_br (p := v570 = (0 : Int32)) ⟨fun hc572 => ?_, fun hc572 => ?_⟩)
  · have h573 := h571.1 hc572
    refine wpc_sl (n := 1) (c' := 11) (pc' := 9) (ls' := [some (.ref 0), some (.int a1), some (.int a2), some (.int a3), some (.int a4), none, none]) (st' := [.int (0 : Int32)]) (s' := s569) rfl ?_
    exact wpc_ret rfl rfl (fun q => absurd q (by decide)) rfl ⟨(0 : Int32), rfl, h573⟩
  · have h574 := h571.2 hc572
    refine wpc_sl (n := 2) (c' := 11) (pc' := 13) (ls' := [some (.ref 0), some (.int a1), some (.int a2), some (.int a3), some (.int a4), none, none]) (st' := [.int a4, .ref 0]) (s' := s569) rfl ?_
    refine wpc_callI (m' := 23) (me' := cm23) (as := [.int a4]) (r := []) rfl rfl rfl rfl rfl ⟨by decide, (by first | decide | exact Nat.le_of_ble_eq_true rfl), (by first | decide | exact Nat.le_of_ble_eq_true rfl), rfl⟩ (calI.mono h574 fun v576 s575 h577 => ?_)
    refine wpc_if (a := 21) (b := 19) rfl (by decide) rfl rfl (wpc_br (p := v576 = (0 : Int32)) ⟨fun hc578 => ?_, fun hc578 => ?_⟩)
    · have h579 := h577.1 hc578
      refine wpc_sl (n := 1) (c' := 11) (pc' := 20) (ls' := [some (.ref 0), some (.int a1), some (.int a2), some (.int a3), some (.int a4), none, none]) (st' := [.int (0 : Int32)]) (s' := s575) rfl ?_
      exact wpc_ret rfl rfl (fun q => absurd q (by decide)) rfl ⟨(0 : Int32), rfl, h579⟩
    · have h580 := h577.2 hc578
      refine wpc_sl (n := 4) (c' := 11) (pc' := 27) (ls' := [some (.ref 0), some (.int a1), some (.int a2), some (.int a3), some (.int a4), some (.int (0 : Int32)), some (.int (0 : Int32))]) (st' := []) (s' := s575) rfl ?_
      exact h580
theorem c3_27 (x1 : Int32) (x2 : Int32) (x3 : Int32) (x4 : Int32) (x5 : Int32) (x6 : Int32) (s : St) (Q : Int32 → St → Prop) (h : ((x6 < (7 : Int32)) → calI PP 26 11 [.ref 0, .int x2, .int x6] s (fun v585 s584 => ((v585 = (0 : Int32)) → wpcI PP 3 cm3 11 59 [some (.ref 0), some (.int x1), some (.int x2), some (.int x3), some (.int x4), some (.int x5), some (.int x6)] [] s584 Q) ∧ (¬ (v585 = (0 : Int32)) → calI PP 38 11 [.ref 0, .int x1, .int x6, .int x3, .int x4] s584 (fun v591 s590 => wpcI PP 3 cm3 11 59 [some (.ref 0), some (.int x1), some (.int x2), some (.int x3), some (.int x4), some (.int (x5 + v591)), some (.int x6)] [] s590 Q)))) ∧ (¬ (x6 < (7 : Int32)) → Q x5 s)) : wpcI PP 3 cm3 11 27 [some (.ref 0), some (.int x1), some (.int x2), some (.int x3), some (.int x4), some (.int x5), some (.int x6)] [] s Q := by
  refine wpc_sl (n := 2) (c' := 11) (pc' := 31) (ls' := [some (.ref 0), some (.int x1), some (.int x2), some (.int x3), some (.int x4), some (.int x5), some (.int x6)]) (st' := [.int (7 : Int32), .int x6]) (s' := s) rfl ?_
  refine wpc_icmp (a := 65) (b := 34) rfl (by decide) rfl rfl (wpc_br (p := x6 < (7 : Int32)) ⟨fun hc581 => ?_, fun hc581 => ?_⟩)
  · have h582 := h.1 hc581
    refine wpc_sl (n := 3) (c' := 11) (pc' := 38) (ls' := [some (.ref 0), some (.int x1), some (.int x2), some (.int x3), some (.int x4), some (.int x5), some (.int x6)]) (st' := [.int x6, .int x2, .ref 0]) (s' := s) rfl ?_
    refine wpc_callI (m' := 26) (me' := cm26) (as := [.int x2, .int x6]) (r := []) rfl rfl rfl rfl rfl ⟨by decide, (by first | decide | exact Nat.le_of_ble_eq_true rfl), (by first | decide | exact Nat.le_of_ble_eq_true rfl), rfl⟩ (calI.mono h582 fun v585 s584 h586 => ?_)
    refine wpc_if (a := 59) (b := 44) rfl (by decide) rfl rfl (wpc_br (p := v585 = (0 : Int32)) ⟨fun hc587 => ?_, fun hc587 => ?_⟩)
    · have h588 := h586.1 hc587
      exact h588
    · have h589 := h586.2 hc587
      refine wpc_sl (n := 6) (c' := 11) (pc' := 53) (ls' := [some (.ref 0), some (.int x1), some (.int x2), some (.int x3), some (.int x4), some (.int x5), some (.int x6)]) (st' := [.int x4, .int x3, .int x6, .int x1, .ref 0, .int x5]) (s' := s584) rfl ?_
      refine wpc_callI (m' := 38) (me' := cm38) (as := [.int x1, .int x6, .int x3, .int x4]) (r := [.int x5]) rfl rfl rfl rfl rfl ⟨by decide, (by first | decide | exact Nat.le_of_ble_eq_true rfl), (by first | decide | exact Nat.le_of_ble_eq_true rfl), rfl⟩ (calI.mono h589 fun v591 s590 h592 => ?_)
      refine wpc_sl (n := 2) (c' := 11) (pc' := 59) (ls' := [some (.ref 0), some (.int x1), some (.int x2), some (.int x3), some (.int x4), some (.int (x5 + v591)), some (.int x6)]) (st' := []) (s' := s590) rfl ?_
      exact h592
  · have h583 := h.2 hc581
    refine wpc_sl (n := 1) (c' := 11) (pc' := 67) (ls' := [some (.ref 0), some (.int x1), some (.int x2), some (.int x3), some (.int x4), some (.int x5), some (.int x6)]) (st' := [.int x5]) (s' := s) rfl ?_
    exact wpc_ret rfl rfl (fun q => absurd q (by decide)) rfl ⟨x5, rfl, h583⟩
theorem c3_59 (x1 : Int32) (x2 : Int32) (x3 : Int32) (x4 : Int32) (x5 : Int32) (x6 : Int32) (s : St) (Q : Int32 → St → Prop) (h : wpcI PP 3 cm3 11 27 [some (.ref 0), some (.int x1), some (.int x2), some (.int x3), some (.int x4), some (.int x5), some (.int (x6 + (1 : Int32)))] [] s Q) : wpcI PP 3 cm3 11 59 [some (.ref 0), some (.int x1), some (.int x2), some (.int x3), some (.int x4), some (.int x5), some (.int x6)] [] s Q := by
  refine wpc_sl (n := 2) (c' := 11) (pc' := 27) (ls' := [some (.ref 0), some (.int x1), some (.int x2), some (.int x3), some (.int x4), some (.int x5), some (.int (x6 + (1 : Int32)))]) (st' := []) (s' := s) rfl ?_
  exact h
theorem c37_in (a1 : Int32) (a2 : Int32) (s : St) (Q : St → Prop) (h : wpcV PP 37 cm37 11 2 [some (.ref 0), some (.int a1), some (.int a2), some (.int (1 : Int32)), none] [] s Q) : calV PP 37 11 [.ref 0, .int a1, .int a2] s Q := by
  refine cal_of (me := cm37) (ls := [some (.ref 0), some (.int a1), some (.int a2), none, none]) rfl (Nat.le_of_ble_eq_true rfl) rfl ?_
  refine wpc_sl (n := 2) (c' := 11) (pc' := 2) (ls' := [some (.ref 0), some (.int a1), some (.int a2), some (.int (1 : Int32)), none]) (st' := []) (s' := s) rfl ?_
  exact h
theorem c37_2 (x1 : Int32) (x2 : Int32) (x3 : Int32) (s : St) (Q : St → Prop) (h : (((8 : Int32) < x3) → Q s) ∧ (¬ ((8 : Int32) < x3) → wpcV PP 37 cm37 11 11 [some (.ref 0), some (.int x1), some (.int x2), some (.int x3), some (.int (0 : Int32))] [] s Q)) : wpcV PP 37 cm37 11 2 [some (.ref 0), some (.int x1), some (.int x2), some (.int x3), none] [] s Q := by
  refine wpc_sl (n := 2) (c' := 11) (pc' := 5) (ls' := [some (.ref 0), some (.int x1), some (.int x2), some (.int x3), none]) (st' := [.int (8 : Int32), .int x3]) (s' := s) rfl ?_
  refine wpc_icmp (a := 52) (b := 8) rfl (by decide) rfl rfl (wpc_br (p := (8 : Int32) < x3) ⟨fun hc654 => ?_, fun hc654 => ?_⟩)
  · have h655 := h.1 hc654
    exact wpc_ret rfl rfl (fun q => absurd q (by decide)) rfl ⟨rfl, h655⟩
  · have h656 := h.2 hc654
    refine wpc_sl (n := 2) (c' := 11) (pc' := 11) (ls' := [some (.ref 0), some (.int x1), some (.int x2), some (.int x3), some (.int (0 : Int32))]) (st' := []) (s' := s) rfl ?_
    exact h656
theorem c37_11 (x1 : Int32) (x2 : Int32) (x3 : Int32) (x4 : Int32) (s : St) (Q : St → Prop) (h : ((x4 < (2 : Int32)) → calI PP 34 11 [.ref 0, .int x1, .int x2, .int x3, .int x4] s (fun v661 s660 => ((v661 = (1 : Int32)) → calV PP 35 11 [.ref 0, .int x1, .int x2, .int x3, .int x4, .int (3 : Int32)] s660 (fun s666 => wpcV PP 37 cm37 11 40 [some (.ref 0), some (.int x1), some (.int x2), some (.int x3), some (.int x4)] [] s666 Q)) ∧ (¬ (v661 = (1 : Int32)) → wpcV PP 37 cm37 11 40 [some (.ref 0), some (.int x1), some (.int x2), some (.int x3), some (.int x4)] [] s660 Q))) ∧ (¬ (x4 < (2 : Int32)) → wpcV PP 37 cm37 11 2 [some (.ref 0), some (.int x1), some (.int x2), some (.int (x3 + (1 : Int32))), none] [] s Q)) : wpcV PP 37 cm37 11 11 [some (.ref 0), some (.int x1), some (.int x2), some (.int x3), some (.int x4)] [] s Q := by
  refine wpc_sl (n := 2) (c' := 11) (pc' := 14) (ls' := [some (.ref 0), some (.int x1), some (.int x2), some (.int x3), some (.int x4)]) (st' := [.int (2 : Int32), .int x4]) (s' := s) rfl ?_
  refine wpc_icmp (a := 46) (b := 17) rfl (by decide) rfl rfl (wpc_br (p := x4 < (2 : Int32)) ⟨fun hc657 => ?_, fun hc657 => ?_⟩)
  · have h658 := h.1 hc657
    refine wpc_sl (n := 5) (c' := 11) (pc' := 23) (ls' := [some (.ref 0), some (.int x1), some (.int x2), some (.int x3), some (.int x4)]) (st' := [.int x4, .int x3, .int x2, .int x1, .ref 0]) (s' := s) rfl ?_
    refine wpc_callI (m' := 34) (me' := cm34) (as := [.int x1, .int x2, .int x3, .int x4]) (r := []) rfl rfl rfl rfl rfl ⟨by decide, (by first | decide | exact Nat.le_of_ble_eq_true rfl), (by first | decide | exact Nat.le_of_ble_eq_true rfl), rfl⟩ (calI.mono h658 fun v661 s660 h662 => ?_)
    refine wpc_sl (n := 1) (c' := 11) (pc' := 27) (ls' := [some (.ref 0), some (.int x1), some (.int x2), some (.int x3), some (.int x4)]) (st' := [.int (1 : Int32), .int v661]) (s' := s660) rfl ?_
    refine wpc_icmp (a := 40) (b := 30) rfl (by decide) rfl rfl (wpc_br (p := v661 = (1 : Int32)) ⟨fun hc663 => ?_, fun hc663 => ?_⟩)
    · have h664 := h662.1 hc663
      refine wpc_sl (n := 6) (c' := 11) (pc' := 37) (ls' := [some (.ref 0), some (.int x1), some (.int x2), some (.int x3), some (.int x4)]) (st' := [.int (3 : Int32), .int x4, .int x3, .int x2, .int x1, .ref 0]) (s' := s660) rfl ?_
      refine wpc_callV (m' := 35) (me' := cm35) (as := [.int x1, .int x2, .int x3, .int x4, .int (3 : Int32)]) (r := []) rfl rfl rfl rfl rfl ⟨by decide, (by first | decide | exact Nat.le_of_ble_eq_true rfl), (by first | decide | exact Nat.le_of_ble_eq_true rfl), rfl⟩ (calV.mono h664 fun s666 h668 => ?_)
      exact h668
    · have h665 := h662.2 hc663
      exact h665
  · have h659 := h.2 hc657
    refine wpc_sl (n := 2) (c' := 11) (pc' := 2) (ls' := [some (.ref 0), some (.int x1), some (.int x2), some (.int (x3 + (1 : Int32))), some (.int x4)]) (st' := []) (s' := s) rfl ?_
    exact wpc_lle (ls := [some (.ref 0), some (.int x1), some (.int x2), some (.int (x3 + (1 : Int32))), none]) ⟨rfl, rfl, rfl, rfl, trivial⟩ h659
theorem c37_40 (x1 : Int32) (x2 : Int32) (x3 : Int32) (x4 : Int32) (s : St) (Q : St → Prop) (h : wpcV PP 37 cm37 11 11 [some (.ref 0), some (.int x1), some (.int x2), some (.int x3), some (.int (x4 + (1 : Int32)))] [] s Q) : wpcV PP 37 cm37 11 40 [some (.ref 0), some (.int x1), some (.int x2), some (.int x3), some (.int x4)] [] s Q := by
  refine wpc_sl (n := 2) (c' := 11) (pc' := 11) (ls' := [some (.ref 0), some (.int x1), some (.int x2), some (.int x3), some (.int (x4 + (1 : Int32)))]) (st' := []) (s' := s) rfl ?_
  exact h
theorem c4_in (a1 : Int32) (a2 : Int32) (s : St) (Q : Int32 → St → Prop) (h : calI PP 21 11 [.ref 0, .int a1] s (fun v629 s628 => ((v629 = (0 : Int32)) → Q (0 : Int32) s628) ∧ (¬ (v629 = (0 : Int32)) → inb 7 a1 ∧ (((gI s628 1 (ix a1)) = (3 : Int32)) → Q (0 : Int32) s628) ∧ (¬ ((gI s628 1 (ix a1)) = (3 : Int32)) → (((gI s628 0 22) < (gI s628 0 19)) → inb 7 a1 ∧ wpcI PP 4 cm4 11 54 [some (.ref 0), some (.int a1), some (.int a2), some (.int (0 : Int32))] [] (sI (sI s628 1 (ix a1) (3 : Int32)) 0 22 ((gI s628 0 22) + (1 : Int32))) Q) ∧ (¬ ((gI s628 0 22) < (gI s628 0 19)) → Q (0 : Int32) s628))))) : calI PP 4 11 [.ref 0, .int a1, .int a2] s Q := by
  refine cal_of (me := cm4) (ls := [some (.ref 0), some (.int a1), some (.int a2), none]) rfl (Nat.le_of_ble_eq_true rfl) rfl ?_
  refine wpc_sl (n := 2) (c' := 11) (pc' := 2) (ls' := [some (.ref 0), some (.int a1), some (.int a2), none]) (st' := [.int a1, .ref 0]) (s' := s) rfl ?_
  refine wpc_callI (m' := 21) (me' := cm21) (as := [.int a1]) (r := []) rfl rfl rfl rfl rfl ⟨by decide, (by first | decide | exact Nat.le_of_ble_eq_true rfl), (by first | decide | exact Nat.le_of_ble_eq_true rfl), rfl⟩ (calI.mono h fun v629 s628 h630 => ?_)
  refine wpc_if (a := 10) (b := 8) rfl (by decide) rfl rfl (wpc_br (p := v629 = (0 : Int32)) ⟨fun hc631 => ?_, fun hc631 => ?_⟩)
  · have h632 := h630.1 hc631
    refine wpc_sl (n := 1) (c' := 11) (pc' := 9) (ls' := [some (.ref 0), some (.int a1), some (.int a2), none]) (st' := [.int (0 : Int32)]) (s' := s628) rfl ?_
    exact wpc_ret rfl rfl (fun q => absurd q (by decide)) rfl ⟨(0 : Int32), rfl, h632⟩
  · have h633 := h630.2 hc631
    refine wpc_sl (n := 3) (c' := 11) (pc' := 15) (ls' := [some (.ref 0), some (.int a1), some (.int a2), none]) (st' := [.int a1, .ref 1]) (s' := s628) rfl ?_
    refine wpc_ldaI (a := 0) (N := 7) (v := (gI s628 1 (ix a1))) rfl rfl (by decide) h633.1 rfl ?_
    have h634 := h633.2
    refine wpc_sl (n := 1) (c' := 11) (pc' := 17) (ls' := [some (.ref 0), some (.int a1), some (.int a2), none]) (st' := [.int (3 : Int32), .int (gI s628 1 (ix a1))]) (s' := s628) rfl ?_
    refine wpc_icmp (a := 22) (b := 20) rfl (by decide) rfl rfl (wpc_br (p := (gI s628 1 (ix a1)) = (3 : Int32)) ⟨fun hc635 => ?_, fun hc635 => ?_⟩)
    · have h636 := h634.1 hc635
      refine wpc_sl (n := 1) (c' := 11) (pc' := 21) (ls' := [some (.ref 0), some (.int a1), some (.int a2), none]) (st' := [.int (0 : Int32)]) (s' := s628) rfl ?_
      exact wpc_ret rfl rfl (fun q => absurd q (by decide)) rfl ⟨(0 : Int32), rfl, h636⟩
    · have h637 := h634.2 hc635
      refine wpc_sl (n := 4) (c' := 11) (pc' := 30) (ls' := [some (.ref 0), some (.int a1), some (.int a2), none]) (st' := [.int (gI s628 0 19), .int (gI s628 0 22)]) (s' := s628) rfl ?_
      refine wpc_icmp (a := 35) (b := 33) rfl (by decide) rfl rfl (wpc_br (p := (gI s628 0 22) < (gI s628 0 19)) ⟨fun hc638 => ?_, fun hc638 => ?_⟩)
      · have h639 := h637.1 hc638
        refine wpc_sl (n := 4) (c' := 11) (pc' := 41) (ls' := [some (.ref 0), some (.int a1), some (.int a2), none]) (st' := [.int (3 : Int32), .int a1, .ref 1]) (s' := s628) rfl ?_
        refine wpc_staI (a := 0) (N := 7) (s' := (sI s628 1 (ix a1) (3 : Int32))) rfl rfl (by decide) h639.1 rfl ?_
        have h641 := h639.2
        refine wpc_sl (n := 8) (c' := 11) (pc' := 54) (ls' := [some (.ref 0), some (.int a1), some (.int a2), some (.int (0 : Int32))]) (st' := []) (s' := (sI (sI s628 1 (ix a1) (3 : Int32)) 0 22 ((gI s628 0 22) + (1 : Int32)))) rfl ?_
        exact h641
      · have h640 := h637.2 hc638
        refine wpc_sl (n := 1) (c' := 11) (pc' := 34) (ls' := [some (.ref 0), some (.int a1), some (.int a2), none]) (st' := [.int (0 : Int32)]) (s' := s628) rfl ?_
        exact wpc_ret rfl rfl (fun q => absurd q (by decide)) rfl ⟨(0 : Int32), rfl, h640⟩
theorem c4_54 (x1 : Int32) (x2 : Int32) (x3 : Int32) (s : St) (Q : Int32 → St → Prop) (h : ((x3 < (7 : Int32)) → calI PP 26 11 [.ref 0, .int x2, .int x3] s (fun v646 s645 => ((v646 = (0 : Int32)) → calV PP 37 11 [.ref 0, .int x1, .int x3] s645 (fun s651 => wpcI PP 4 cm4 11 75 [some (.ref 0), some (.int x1), some (.int x2), some (.int x3)] [] s651 Q)) ∧ (¬ (v646 = (0 : Int32)) → wpcI PP 4 cm4 11 75 [some (.ref 0), some (.int x1), some (.int x2), some (.int x3)] [] s645 Q))) ∧ (¬ (x3 < (7 : Int32)) → Q (1 : Int32) s)) : wpcI PP 4 cm4 11 54 [some (.ref 0), some (.int x1), some (.int x2), some (.int x3)] [] s Q := by
  refine wpc_sl (n := 2) (c' := 11) (pc' := 57) (ls' := [some (.ref 0), some (.int x1), some (.int x2), some (.int x3)]) (st' := [.int (7 : Int32), .int x3]) (s' := s) rfl ?_
  refine wpc_icmp (a := 81) (b := 60) rfl (by decide) rfl rfl (wpc_br (p := x3 < (7 : Int32)) ⟨fun hc642 => ?_, fun hc642 => ?_⟩)
  · have h643 := h.1 hc642
    refine wpc_sl (n := 3) (c' := 11) (pc' := 63) (ls' := [some (.ref 0), some (.int x1), some (.int x2), some (.int x3)]) (st' := [.int x3, .int x2, .ref 0]) (s' := s) rfl ?_
    refine wpc_callI (m' := 26) (me' := cm26) (as := [.int x2, .int x3]) (r := []) rfl rfl rfl rfl rfl ⟨by decide, (by first | decide | exact Nat.le_of_ble_eq_true rfl), (by first | decide | exact Nat.le_of_ble_eq_true rfl), rfl⟩ (calI.mono h643 fun v646 s645 h647 => ?_)
    refine wpc_if (a := 75) (b := 69) rfl (by decide) rfl rfl (wpc_br (p := v646 = (0 : Int32)) ⟨fun hc648 => ?_, fun hc648 => ?_⟩)
    · have h649 := h647.1 hc648
      refine wpc_sl (n := 3) (c' := 11) (pc' := 72) (ls' := [some (.ref 0), some (.int x1), some (.int x2), some (.int x3)]) (st' := [.int x3, .int x1, .ref 0]) (s' := s645) rfl ?_
      refine wpc_callV (m' := 37) (me' := cm37) (as := [.int x1, .int x3]) (r := []) rfl rfl rfl rfl rfl ⟨by decide, (by first | decide | exact Nat.le_of_ble_eq_true rfl), (by first | decide | exact Nat.le_of_ble_eq_true rfl), rfl⟩ (calV.mono h649 fun s651 h653 => ?_)
      exact h653
    · have h650 := h647.2 hc648
      exact h650
  · have h644 := h.2 hc642
    refine wpc_sl (n := 1) (c' := 11) (pc' := 82) (ls' := [some (.ref 0), some (.int x1), some (.int x2), some (.int x3)]) (st' := [.int (1 : Int32)]) (s' := s) rfl ?_
    exact wpc_ret rfl rfl (fun q => absurd q (by decide)) rfl ⟨(1 : Int32), rfl, h644⟩
theorem c4_75 (x1 : Int32) (x2 : Int32) (x3 : Int32) (s : St) (Q : Int32 → St → Prop) (h : wpcI PP 4 cm4 11 54 [some (.ref 0), some (.int x1), some (.int x2), some (.int (x3 + (1 : Int32)))] [] s Q) : wpcI PP 4 cm4 11 75 [some (.ref 0), some (.int x1), some (.int x2), some (.int x3)] [] s Q := by
  refine wpc_sl (n := 2) (c' := 11) (pc' := 54) (ls' := [some (.ref 0), some (.int x1), some (.int x2), some (.int (x3 + (1 : Int32)))]) (st' := []) (s' := s) rfl ?_
  exact h
theorem l0_in (N : Nat) (sg : Nat → Int32)   (Q : Int32 → Wd → Prop) (h : lalI PP QQ (some (N, sg)) 2 [.ref 0, .int (0 : Int32)] W0 (fun v2 w1 => w1 = W0 ∧ (lalI PP QQ (some (N, sg)) 2 [.ref 0, .int (1 : Int32)] W0 (fun v5 w4 => w4 = W0 ∧ (calV PP 0 0 [.ref 0, .int (v2 &&& (3 : Int32)), .int ((1 : Int32) + (v5 &&& (7 : Int32)))] s0 (fun s7 => lalL PP QQ (some (N, sg)) 4 [.ref 1, .long (0 : Int64), .int ((1 : Int32) + (v5 &&& (7 : Int32)))] (W1 s7) (fun v10 w9 => ∃ s12, w9 = W1 s12 ∧ ((((XT.cmpL v10 (0 : Int64)) < (0 : Int32)) → Q (0 : Int32) (W1 s12)) ∧ (¬ ((XT.cmpL v10 (0 : Int64)) < (0 : Int32)) → lalI PP QQ (some (N, sg)) 2 [.ref 0, .int (2 : Int32)] (W1 s12) (fun v17 w16 => ∃ s19, w16 = W1 s19 ∧ (lalI PP QQ (some (N, sg)) 2 [.ref 0, .int (3 : Int32)] (W1 s19) (fun v21 w20 => ∃ s23, w20 = W1 s23 ∧ (lalI PP QQ (some (N, sg)) 2 [.ref 0, .int (4 : Int32)] (W1 s23) (fun v25 w24 => ∃ s27, w24 = W1 s27 ∧ (lalI PP QQ (some (N, sg)) 2 [.ref 0, .int (5 : Int32)] (W1 s27) (fun v29 w28 => ∃ s31, w28 = W1 s31 ∧ (wplI PP QQ (some (N, sg)) 0 lm0 77 [some (.ref 0), none, some (.int ((1 : Int32) + (v5 &&& (7 : Int32)))), some (.ref 1), some (.long v10), none, some (.int v17), some (.int v21), some (.int v25), some (.int v29), some (.int (0 : Int32)), none, none, none, none, none, none, none] [] (W1 s31) Q))))))))))))))))) : lalI PP QQ (some (N, sg)) 0 [.ref 0] W0 Q := by
  refine lal_of (me := lm0) (ls := [some (.ref 0), none, none, none, none, none, none, none, none, none, none, none, none, none, none, none, none, none]) rfl (Nat.le_of_ble_eq_true rfl) rfl ?_
  refine wpl_sl (n := 2) (pc' := 2) (ls' := [some (.ref 0), none, none, none, none, none, none, none, none, none, none, none, none, none, none, none, none, none]) (st' := [.int (0 : Int32), .ref 0]) rfl ?_
  refine wpl_stat (m' := 2) (me' := lm2) (as := [.ref 0, .int (0 : Int32)]) (r := []) rfl rfl rfl rfl rfl ⟨(by first | decide | exact Nat.le_of_ble_eq_true rfl), (by first | decide | exact Nat.le_of_ble_eq_true rfl), (by first | decide | exact Nat.le_of_ble_eq_true rfl), (by first | decide | exact Nat.le_of_ble_eq_true rfl), rfl⟩ (lal_I (lalI.mono h fun v2 w1 hh => ?_))
  obtain ⟨rfl, h3⟩ := hh
  refine wpl_sl (n := 6) (pc' := 11) (ls' := [some (.ref 0), some (.int (v2 &&& (3 : Int32))), none, none, none, none, none, none, none, none, none, none, none, none, none, none, none, none]) (st' := [.int (1 : Int32), .ref 0, .int (1 : Int32)]) rfl ?_
  refine wpl_stat (m' := 2) (me' := lm2) (as := [.ref 0, .int (1 : Int32)]) (r := [.int (1 : Int32)]) rfl rfl rfl rfl rfl ⟨(by first | decide | exact Nat.le_of_ble_eq_true rfl), (by first | decide | exact Nat.le_of_ble_eq_true rfl), (by first | decide | exact Nat.le_of_ble_eq_true rfl), (by first | decide | exact Nat.le_of_ble_eq_true rfl), rfl⟩ (lal_I (lalI.mono h3 fun v5 w4 hh => ?_))
  obtain ⟨rfl, h6⟩ := hh
  refine wpl_sl (n := 4) (pc' := 19) (ls' := [some (.ref 0), some (.int (v2 &&& (3 : Int32))), some (.int ((1 : Int32) + (v5 &&& (7 : Int32)))), none, none, none, none, none, none, none, none, none, none, none, none, none, none, none]) (st' := []) rfl ?_
  refine wpl_new0 rfl rfl (by decide) (by decide) ?_
  refine wpl_sl (n := 3) (pc' := 25) (ls' := [some (.ref 0), some (.int (v2 &&& (3 : Int32))), some (.int ((1 : Int32) + (v5 &&& (7 : Int32)))), none, none, none, none, none, none, none, none, none, none, none, none, none, none, none]) (st' := [.int ((1 : Int32) + (v5 &&& (7 : Int32))), .int (v2 &&& (3 : Int32)), .ref 1, .ref 1]) rfl ?_
  refine wpl_ctor0 (me' := cm0) (as := [.int (v2 &&& (3 : Int32)), .int ((1 : Int32) + (v5 &&& (7 : Int32)))]) (r := [.ref 1]) rfl rfl rfl rfl rfl ⟨by decide, by decide, rfl, by decide, by decide⟩ (calV.mono h6 fun s7 h8 => ?_)
  refine wpl_sl (n := 4) (pc' := 32) (ls' := [some (.ref 0), some (.int (v2 &&& (3 : Int32))), some (.int ((1 : Int32) + (v5 &&& (7 : Int32)))), some (.ref 1), none, none, none, none, none, none, none, none, none, none, none, none, none, none]) (st' := [.int ((1 : Int32) + (v5 &&& (7 : Int32))), .long (0 : Int64), .ref 1]) rfl ?_
  refine wpl_stat (m' := 4) (me' := lm4) (as := [.ref 1, .long (0 : Int64), .int ((1 : Int32) + (v5 &&& (7 : Int32)))]) (r := []) rfl rfl rfl rfl rfl ⟨(by first | decide | exact Nat.le_of_ble_eq_true rfl), (by first | decide | exact Nat.le_of_ble_eq_true rfl), (by first | decide | exact Nat.le_of_ble_eq_true rfl), (by first | decide | exact Nat.le_of_ble_eq_true rfl), rfl⟩ (lal_L (lalL.mono h8 fun v10 w9 hh => ?_))
  obtain ⟨s12, rfl, h11⟩ := hh
  refine wpl_sl (n := 4) (pc' := 41) (ls' := [some (.ref 0), some (.int (v2 &&& (3 : Int32))), some (.int ((1 : Int32) + (v5 &&& (7 : Int32)))), some (.ref 1), some (.long v10), none, none, none, none, none, none, none, none, none, none, none, none, none]) (st' := [.int (XT.cmpL v10 (0 : Int64))]) rfl ?_
  refine wpl_if (a := 46) (b := 44) rfl (by decide) rfl rfl (wpl_br (p := (XT.cmpL v10 (0 : Int64)) < (0 : Int32)) ⟨fun hc13 => ?_, fun hc13 => ?_⟩)
  · have h14 := h11.1 hc13
    refine wpl_sl (n := 1) (pc' := 45) (ls' := [some (.ref 0), some (.int (v2 &&& (3 : Int32))), some (.int ((1 : Int32) + (v5 &&& (7 : Int32)))), some (.ref 1), some (.long v10), none, none, none, none, none, none, none, none, none, none, none, none, none]) (st' := [.int (0 : Int32)]) rfl ?_
    exact wpl_ret rfl rfl rfl ⟨(0 : Int32), rfl, h14⟩
  · have h15 := h11.2 hc13
    refine wpl_sl (n := 2) (pc' := 48) (ls' := [some (.ref 0), some (.int (v2 &&& (3 : Int32))), some (.int ((1 : Int32) + (v5 &&& (7 : Int32)))), some (.ref 1), some (.long v10), none, none, none, none, none, none, none, none, none, none, none, none, none]) (st' := [.int (2 : Int32), .ref 0]) rfl ?_
    refine wpl_stat (m' := 2) (me' := lm2) (as := [.ref 0, .int (2 : Int32)]) (r := []) rfl rfl rfl rfl rfl ⟨(by first | decide | exact Nat.le_of_ble_eq_true rfl), (by first | decide | exact Nat.le_of_ble_eq_true rfl), (by first | decide | exact Nat.le_of_ble_eq_true rfl), (by first | decide | exact Nat.le_of_ble_eq_true rfl), rfl⟩ (lal_I (lalI.mono h15 fun v17 w16 hh => ?_))
    obtain ⟨s19, rfl, h18⟩ := hh
    refine wpl_sl (n := 3) (pc' := 55) (ls' := [some (.ref 0), some (.int (v2 &&& (3 : Int32))), some (.int ((1 : Int32) + (v5 &&& (7 : Int32)))), some (.ref 1), some (.long v10), none, some (.int v17), none, none, none, none, none, none, none, none, none, none, none]) (st' := [.int (3 : Int32), .ref 0]) rfl ?_
    refine wpl_stat (m' := 2) (me' := lm2) (as := [.ref 0, .int (3 : Int32)]) (r := []) rfl rfl rfl rfl rfl ⟨(by first | decide | exact Nat.le_of_ble_eq_true rfl), (by first | decide | exact Nat.le_of_ble_eq_true rfl), (by first | decide | exact Nat.le_of_ble_eq_true rfl), (by first | decide | exact Nat.le_of_ble_eq_true rfl), rfl⟩ (lal_I (lalI.mono h18 fun v21 w20 hh => ?_))
    obtain ⟨s23, rfl, h22⟩ := hh
    refine wpl_sl (n := 3) (pc' := 62) (ls' := [some (.ref 0), some (.int (v2 &&& (3 : Int32))), some (.int ((1 : Int32) + (v5 &&& (7 : Int32)))), some (.ref 1), some (.long v10), none, some (.int v17), some (.int v21), none, none, none, none, none, none, none, none, none, none]) (st' := [.int (4 : Int32), .ref 0]) rfl ?_
    refine wpl_stat (m' := 2) (me' := lm2) (as := [.ref 0, .int (4 : Int32)]) (r := []) rfl rfl rfl rfl rfl ⟨(by first | decide | exact Nat.le_of_ble_eq_true rfl), (by first | decide | exact Nat.le_of_ble_eq_true rfl), (by first | decide | exact Nat.le_of_ble_eq_true rfl), (by first | decide | exact Nat.le_of_ble_eq_true rfl), rfl⟩ (lal_I (lalI.mono h22 fun v25 w24 hh => ?_))
    obtain ⟨s27, rfl, h26⟩ := hh
    refine wpl_sl (n := 3) (pc' := 69) (ls' := [some (.ref 0), some (.int (v2 &&& (3 : Int32))), some (.int ((1 : Int32) + (v5 &&& (7 : Int32)))), some (.ref 1), some (.long v10), none, some (.int v17), some (.int v21), some (.int v25), none, none, none, none, none, none, none, none, none]) (st' := [.int (5 : Int32), .ref 0]) rfl ?_
    refine wpl_stat (m' := 2) (me' := lm2) (as := [.ref 0, .int (5 : Int32)]) (r := []) rfl rfl rfl rfl rfl ⟨(by first | decide | exact Nat.le_of_ble_eq_true rfl), (by first | decide | exact Nat.le_of_ble_eq_true rfl), (by first | decide | exact Nat.le_of_ble_eq_true rfl), (by first | decide | exact Nat.le_of_ble_eq_true rfl), rfl⟩ (lal_I (lalI.mono h26 fun v29 w28 hh => ?_))
    obtain ⟨s31, rfl, h30⟩ := hh
    refine wpl_sl (n := 3) (pc' := 77) (ls' := [some (.ref 0), some (.int (v2 &&& (3 : Int32))), some (.int ((1 : Int32) + (v5 &&& (7 : Int32)))), some (.ref 1), some (.long v10), none, some (.int v17), some (.int v21), some (.int v25), some (.int v29), some (.int (0 : Int32)), none, none, none, none, none, none, none]) (st' := []) rfl ?_
    exact wpl_lle (ls := [some (.ref 0), none, some (.int ((1 : Int32) + (v5 &&& (7 : Int32)))), some (.ref 1), some (.long v10), none, some (.int v17), some (.int v21), some (.int v25), some (.int v29), some (.int (0 : Int32)), none, none, none, none, none, none, none]) ⟨rfl, rfl, rfl, rfl, rfl, rfl, rfl, rfl, rfl, trivial⟩ h30
theorem l0_77 (N : Nat) (sg : Nat → Int32) (x2 : Int32) (x4 : Int64) (x6 : Int32) (x7 : Int32) (x8 : Int32) (x9 : Int32) (x10 : Int32)  (Q : Int32 → Wd → Prop) (h : ((x10 < (7 : Int32)) → ((((XT.ushr x6 x10) &&& (1 : Int32)) = (0 : Int32)) → calI PP 2 11 [.ref 0, .int x10, .int ((XT.ushr x7 x10) &&& (1 : Int32)), .int (x8 + x10), .int (x9 ^^^ (x10 * (977 : Int32)))] s (fun v39 s38 => lalL PP QQ (some (N, sg)) 4 [.ref 1, .long x4, .int x2] (W1 s38) (fun v42 w41 => ∃ s44, w41 = W1 s44 ∧ ((((XT.cmpL v42 (0 : Int64)) < (0 : Int32)) → Q (0 : Int32) (W1 s44)) ∧ (¬ ((XT.cmpL v42 (0 : Int64)) < (0 : Int32)) → wplI PP QQ (some (N, sg)) 0 lm0 140 [some (.ref 0), none, some (.int x2), some (.ref 1), some (.long v42), none, some (.int x6), some (.int x7), some (.int x8), some (.int x9), some (.int x10), none, none, none, none, none, none, none] [] (W1 s44) Q))))) ∧ (¬ (((XT.ushr x6 x10) &&& (1 : Int32)) = (0 : Int32)) → wplI PP QQ (some (N, sg)) 0 lm0 140 [some (.ref 0), none, some (.int x2), some (.ref 1), some (.long x4), none, some (.int x6), some (.int x7), some (.int x8), some (.int x9), some (.int x10), none, none, none, none, none, none, none] [] (W1 s) Q)) ∧ (¬ (x10 < (7 : Int32)) → wplI PP QQ (some (N, sg)) 0 lm0 150 [some (.ref 0), none, some (.int x2), some (.ref 1), some (.long x4), none, none, none, none, none, some (.int (6 : Int32)), none, none, none, none, none, none, none] [] (W1 s) Q)) : wplI PP QQ (some (N, sg)) 0 lm0 77 [some (.ref 0), none, some (.int x2), some (.ref 1), some (.long x4), none, some (.int x6), some (.int x7), some (.int x8), some (.int x9), some (.int x10), none, none, none, none, none, none, none] [] (W1 s) Q := by
  refine wpl_sl (n := 2) (pc' := 81) (ls' := [some (.ref 0), none, some (.int x2), some (.ref 1), some (.long x4), none, some (.int x6), some (.int x7), some (.int x8), some (.int x9), some (.int x10), none, none, none, none, none, none, none]) (st' := [.int (7 : Int32), .int x10]) rfl ?_
  refine wpl_icmp (a := 146) (b := 84) rfl (by decide) rfl rfl (wpl_br (p := x10 < (7 : Int32)) ⟨fun hc32 => ?_, fun hc32 => ?_⟩)
  · have h33 := h.1 hc32
    refine wpl_sl (n := 5) (pc' := 91) (ls' := [some (.ref 0), none, some (.int x2), some (.ref 1), some (.long x4), none, some (.int x6), some (.int x7), some (.int x8), some (.int x9), some (.int x10), none, none, none, none, none, none, none]) (st' := [.int ((XT.ushr x6 x10) &&& (1 : Int32))]) rfl ?_
    refine wpl_if (a := 140) (b := 94) rfl (by decide) rfl rfl (wpl_br (p := ((XT.ushr x6 x10) &&& (1 : Int32)) = (0 : Int32)) ⟨fun hc35 => ?_, fun hc35 => ?_⟩)
    · have h36 := h33.1 hc35
      refine wpl_sl (n := 5) (pc' := 102) (ls' := [some (.ref 0), none, some (.int x2), some (.ref 1), some (.long x4), none, some (.int x6), some (.int x7), some (.int x8), some (.int x9), some (.int x10), none, none, none, none, none, none, none]) (st' := [.int (XT.ushr x7 x10), .int x10, .ref 1]) rfl ?_
      refine wpl_sl (n := 5) (pc' := 109) (ls' := [some (.ref 0), none, some (.int x2), some (.ref 1), some (.long x4), none, some (.int x6), some (.int x7), some (.int x8), some (.int x9), some (.int x10), none, none, none, none, none, none, none]) (st' := [.int (x8 + x10), .int ((XT.ushr x7 x10) &&& (1 : Int32)), .int x10, .ref 1]) rfl ?_
      refine wpl_sl (n := 5) (pc' := 118) (ls' := [some (.ref 0), none, some (.int x2), some (.ref 1), some (.long x4), none, some (.int x6), some (.int x7), some (.int x8), some (.int x9), some (.int x10), none, none, none, none, none, none, none]) (st' := [.int (x9 ^^^ (x10 * (977 : Int32))), .int (x8 + x10), .int ((XT.ushr x7 x10) &&& (1 : Int32)), .int x10, .ref 1]) rfl ?_
      refine wpl_v1 (m' := 2) (me' := cm2) (as := [.int x10, .int ((XT.ushr x7 x10) &&& (1 : Int32)), .int (x8 + x10), .int (x9 ^^^ (x10 * (977 : Int32)))]) (r := []) rfl rfl rfl rfl rfl ⟨by decide, (by first | decide | exact Nat.le_of_ble_eq_true rfl), (by first | decide | exact Nat.le_of_ble_eq_true rfl), rfl⟩ (cal_I (calI.mono h36 fun v39 s38 h40 => ?_))
      refine wpl_sl (n := 4) (pc' := 126) (ls' := [some (.ref 0), none, some (.int x2), some (.ref 1), some (.long x4), none, some (.int x6), some (.int x7), some (.int x8), some (.int x9), some (.int x10), none, none, none, none, none, none, none]) (st' := [.int x2, .long x4, .ref 1]) rfl ?_
      refine wpl_stat (m' := 4) (me' := lm4) (as := [.ref 1, .long x4, .int x2]) (r := []) rfl rfl rfl rfl rfl ⟨(by first | decide | exact Nat.le_of_ble_eq_true rfl), (by first | decide | exact Nat.le_of_ble_eq_true rfl), (by first | decide | exact Nat.le_of_ble_eq_true rfl), (by first | decide | exact Nat.le_of_ble_eq_true rfl), rfl⟩ (lal_L (lalL.mono h40 fun v42 w41 hh => ?_))
      obtain ⟨s44, rfl, h43⟩ := hh
      refine wpl_sl (n := 4) (pc' := 135) (ls' := [some (.ref 0), none, some (.int x2), some (.ref 1), some (.long v42), none, some (.int x6), some (.int x7), some (.int x8), some (.int x9), some (.int x10), none, none, none, none, none, none, none]) (st' := [.int (XT.cmpL v42 (0 : Int64))]) rfl ?_
      refine wpl_if (a := 140) (b := 138) rfl (by decide) rfl rfl (wpl_br (p := (XT.cmpL v42 (0 : Int64)) < (0 : Int32)) ⟨fun hc45 => ?_, fun hc45 => ?_⟩)
      · have h46 := h43.1 hc45
        refine wpl_sl (n := 1) (pc' := 139) (ls' := [some (.ref 0), none, some (.int x2), some (.ref 1), some (.long v42), none, some (.int x6), some (.int x7), some (.int x8), some (.int x9), some (.int x10), none, none, none, none, none, none, none]) (st' := [.int (0 : Int32)]) rfl ?_
        exact wpl_ret rfl rfl rfl ⟨(0 : Int32), rfl, h46⟩
      · have h47 := h43.2 hc45
        exact h47
    · have h37 := h33.2 hc35
      exact h37
  · have h34 := h.2 hc32
    refine wpl_sl (n := 2) (pc' := 150) (ls' := [some (.ref 0), none, some (.int x2), some (.ref 1), some (.long x4), none, some (.int x6), some (.int x7), some (.int x8), some (.int x9), some (.int (6 : Int32)), none, none, none, none, none, none, none]) (st' := []) rfl ?_
    exact wpl_lle (ls := [some (.ref 0), none, some (.int x2), some (.ref 1), some (.long x4), none, none, none, none, none, some (.int (6 : Int32)), none, none, none, none, none, none, none]) ⟨rfl, rfl, rfl, rfl, rfl, trivial⟩ h34
theorem l0_140 (N : Nat) (sg : Nat → Int32) (x2 : Int32) (x4 : Int64) (x6 : Int32) (x7 : Int32) (x8 : Int32) (x9 : Int32) (x10 : Int32)  (Q : Int32 → Wd → Prop) (h : wplI PP QQ (some (N, sg)) 0 lm0 77 [some (.ref 0), none, some (.int x2), some (.ref 1), some (.long x4), none, some (.int x6), some (.int x7), some (.int x8), some (.int x9), some (.int (x10 + (1 : Int32))), none, none, none, none, none, none, none] [] (W1 s) Q) : wplI PP QQ (some (N, sg)) 0 lm0 140 [some (.ref 0), none, some (.int x2), some (.ref 1), some (.long x4), none, some (.int x6), some (.int x7), some (.int x8), some (.int x9), some (.int x10), none, none, none, none, none, none, none] [] (W1 s) Q := by
  refine wpl_sl (n := 2) (pc' := 77) (ls' := [some (.ref 0), none, some (.int x2), some (.ref 1), some (.long x4), none, some (.int x6), some (.int x7), some (.int x8), some (.int x9), some (.int (x10 + (1 : Int32))), none, none, none, none, none, none, none]) (st' := []) rfl ?_
  exact h
theorem l0_150 (N : Nat) (sg : Nat → Int32) (x2 : Int32) (x4 : Int64) (x10 : Int32)  (Q : Int32 → Wd → Prop) (h : ((x10 < (Int32.ofNat N)) → lalI PP QQ (some (N, sg)) 2 [.ref 0, .int x10] (W1 s) (fun v52 w51 => ∃ s54, w51 = W1 s54 ∧ (lalI PP QQ (some (N, sg)) 2 [.ref 0, .int (x10 + (1 : Int32))] (W1 s54) (fun v56 w55 => ∃ s58, w55 = W1 s58 ∧ (lalI PP QQ (some (N, sg)) 2 [.ref 0, .int (x10 + (2 : Int32))] (W1 s58) (fun v60 w59 => ∃ s62, w59 = W1 s62 ∧ (lalI PP QQ (some (N, sg)) 2 [.ref 0, .int (x10 + (3 : Int32))] (W1 s62) (fun v64 w63 => ∃ s66, w63 = W1 s66 ∧ ((((v52 &&& (3 : Int32)) = (0 : Int32)) → lalI PP QQ (some (N, sg)) 3 [.int v56, .int (7 : Int32)] (W1 s66) (fun v71 w70 => ∃ s73, w70 = W1 s73 ∧ (calI PP 2 11 [.ref 0, .int v71, .int (v60 &&& (1 : Int32)), .int v64, .int (v56 ^^^ v60)] s73 (fun v75 s74 => lalL PP QQ (some (N, sg)) 4 [.ref 1, .long x4, .int x2] (W1 s74) (fun v78 w77 => ∃ s80, w77 = W1 s80 ∧ ((((XT.cmpL v78 (0 : Int64)) < (0 : Int32)) → Q (0 : Int32) (W1 s80)) ∧ (¬ ((XT.cmpL v78 (0 : Int64)) < (0 : Int32)) → wplI PP QQ (some (N, sg)) 0 lm0 420 [some (.ref 0), none, some (.int x2), some (.ref 1), some (.long v78), none, none, none, none, none, some (.int x10), none, none, none, none, none, none, none] [] (W1 s80) Q))))))) ∧ (¬ ((v52 &&& (3 : Int32)) = (0 : Int32)) → (((v52 &&& (3 : Int32)) = (1 : Int32)) → lalI PP QQ (some (N, sg)) 3 [.int v64, .int x2] (W1 s66) (fun v88 w87 => ∃ s90, w87 = W1 s90 ∧ (calI PP 3 11 [.ref 0, .int (v56 &&& (127 : Int32)), .int (v60 &&& (127 : Int32)), .int ((1 : Int32) + v88), .int ((XT.ushr v64 (4 : Int32)) &&& (1 : Int32))] s90 (fun v92 s91 => lalL PP QQ (some (N, sg)) 4 [.ref 1, .long x4, .int x2] (W1 s91) (fun v95 w94 => ∃ s97, w94 = W1 s97 ∧ ((((XT.cmpL v95 (0 : Int64)) < (0 : Int32)) → Q (0 : Int32) (W1 s97)) ∧ (¬ ((XT.cmpL v95 (0 : Int64)) < (0 : Int32)) → wplI PP QQ (some (N, sg)) 0 lm0 420 [some (.ref 0), none, some (.int x2), some (.ref 1), some (.long v95), none, none, none, none, none, some (.int x10), none, none, none, none, none, none, none] [] (W1 s97) Q))))))) ∧ (¬ ((v52 &&& (3 : Int32)) = (1 : Int32)) → (((v52 &&& (3 : Int32)) = (2 : Int32)) → ∀ m104, m104 = (if (v56 &&& (1 : Int32)) = (0 : Int32) then (127 : Int32) else (v60 &&& (127 : Int32))) → (wplI PP QQ (some (N, sg)) 0 lm0 324 [some (.ref 0), none, some (.int x2), some (.ref 1), some (.long x4), none, none, none, none, none, some (.int x10), none, none, none, none, some (.int m104), some (.int (1 : Int32)), none] [] (W1 s66) Q)) ∧ (¬ ((v52 &&& (3 : Int32)) = (2 : Int32)) → lalI PP QQ (some (N, sg)) 3 [.int v56, .int (7 : Int32)] (W1 s66) (fun v109 w108 => ∃ s111, w108 = W1 s111 ∧ (calI PP 4 11 [.ref 0, .int v109, .int (v60 &&& (127 : Int32))] s111 (fun v113 s112 => lalL PP QQ (some (N, sg)) 4 [.ref 1, .long x4, .int x2] (W1 s112) (fun v116 w115 => ∃ s118, w115 = W1 s118 ∧ ((((XT.cmpL v116 (0 : Int64)) < (0 : Int32)) → Q (0 : Int32) (W1 s118)) ∧ (¬ ((XT.cmpL v116 (0 : Int64)) < (0 : Int32)) → wplI PP QQ (some (N, sg)) 0 lm0 420 [some (.ref 0), none, some (.int x2), some (.ref 1), some (.long v116), none, none, none, none, none, some (.int x10), none, none, none, none, none, none, none] [] (W1 s118) Q)))))))))))))))))) ∧ (¬ (x10 < (Int32.ofNat N)) → Q (1 : Int32) (W1 s))) : wplI PP QQ (some (N, sg)) 0 lm0 150 [some (.ref 0), none, some (.int x2), some (.ref 1), some (.long x4), none, none, none, none, none, some (.int x10), none, none, none, none, none, none, none] [] (W1 s) Q := by
  refine wpl_sl (n := 2) (pc' := 153) (ls' := [some (.ref 0), none, some (.int x2), some (.ref 1), some (.long x4), none, none, none, none, none, some (.int x10), none, none, none, none, none, none, none]) (st' := [.ref 0, .int x10]) rfl ?_
  refine wpl_len rfl ?_
  refine wpl_icmp (a := 426) (b := 157) rfl (by decide) rfl rfl (wpl_br (p := x10 < (Int32.ofNat N)) ⟨fun hc48 => ?_, fun hc48 => ?_⟩)
  · have h49 := h.1 hc48
    refine wpl_sl (n := 2) (pc' := 160) (ls' := [some (.ref 0), none, some (.int x2), some (.ref 1), some (.long x4), none, none, none, none, none, some (.int x10), none, none, none, none, none, none, none]) (st' := [.int x10, .ref 0]) rfl ?_
    refine wpl_stat (m' := 2) (me' := lm2) (as := [.ref 0, .int x10]) (r := []) rfl rfl rfl rfl rfl ⟨(by first | decide | exact Nat.le_of_ble_eq_true rfl), (by first | decide | exact Nat.le_of_ble_eq_true rfl), (by first | decide | exact Nat.le_of_ble_eq_true rfl), (by first | decide | exact Nat.le_of_ble_eq_true rfl), rfl⟩ (lal_I (lalI.mono h49 fun v52 w51 hh => ?_))
    obtain ⟨s54, rfl, h53⟩ := hh
    refine wpl_sl (n := 7) (pc' := 172) (ls' := [some (.ref 0), none, some (.int x2), some (.ref 1), some (.long x4), none, none, none, none, none, some (.int x10), some (.int (v52 &&& (3 : Int32))), none, none, none, none, none, none]) (st' := [.int (x10 + (1 : Int32)), .ref 0]) rfl ?_
    refine wpl_stat (m' := 2) (me' := lm2) (as := [.ref 0, .int (x10 + (1 : Int32))]) (r := []) rfl rfl rfl rfl rfl ⟨(by first | decide | exact Nat.le_of_ble_eq_true rfl), (by first | decide | exact Nat.le_of_ble_eq_true rfl), (by first | decide | exact Nat.le_of_ble_eq_true rfl), (by first | decide | exact Nat.le_of_ble_eq_true rfl), rfl⟩ (lal_I (lalI.mono h53 fun v56 w55 hh => ?_))
    obtain ⟨s58, rfl, h57⟩ := hh
    refine wpl_sl (n := 5) (pc' := 182) (ls' := [some (.ref 0), none, some (.int x2), some (.ref 1), some (.long x4), none, none, none, none, none, some (.int x10), some (.int (v52 &&& (3 : Int32))), some (.int v56), none, none, none, none, none]) (st' := [.int (x10 + (2 : Int32)), .ref 0]) rfl ?_
    refine wpl_stat (m' := 2) (me' := lm2) (as := [.ref 0, .int (x10 + (2 : Int32))]) (r := []) rfl rfl rfl rfl rfl ⟨(by first | decide | exact Nat.le_of_ble_eq_true rfl), (by first | decide | exact Nat.le_of_ble_eq_true rfl), (by first | decide | exact Nat.le_of_ble_eq_true rfl), (by first | decide | exact Nat.le_of_ble_eq_true rfl), rfl⟩ (lal_I (lalI.mono h57 fun v60 w59 hh => ?_))
    obtain ⟨s62, rfl, h61⟩ := hh
    refine wpl_sl (n := 5) (pc' := 192) (ls' := [some (.ref 0), none, some (.int x2), some (.ref 1), some (.long x4), none, none, none, none, none, some (.int x10), some (.int (v52 &&& (3 : Int32))), some (.int v56), some (.int v60), none, none, none, none]) (st' := [.int (x10 + (3 : Int32)), .ref 0]) rfl ?_
    refine wpl_stat (m' := 2) (me' := lm2) (as := [.ref 0, .int (x10 + (3 : Int32))]) (r := []) rfl rfl rfl rfl rfl ⟨(by first | decide | exact Nat.le_of_ble_eq_true rfl), (by first | decide | exact Nat.le_of_ble_eq_true rfl), (by first | decide | exact Nat.le_of_ble_eq_true rfl), (by first | decide | exact Nat.le_of_ble_eq_true rfl), rfl⟩ (lal_I (lalI.mono h61 fun v64 w63 hh => ?_))
    obtain ⟨s66, rfl, h65⟩ := hh
    refine wpl_sl (n := 2) (pc' := 199) (ls' := [some (.ref 0), none, some (.int x2), some (.ref 1), some (.long x4), none, none, none, none, none, some (.int x10), some (.int (v52 &&& (3 : Int32))), some (.int v56), some (.int v60), some (.int v64), none, none, none]) (st' := [.int (v52 &&& (3 : Int32))]) rfl ?_
    refine wpl_if (a := 243) (b := 202) rfl (by decide) rfl rfl (wpl_br (p := (v52 &&& (3 : Int32)) = (0 : Int32)) ⟨fun hc67 => ?_, fun hc67 => ?_⟩)
    · have h68 := h65.1 hc67
      refine wpl_sl (n := 3) (pc' := 207) (ls' := [some (.ref 0), none, some (.int x2), some (.ref 1), some (.long x4), none, none, none, none, none, some (.int x10), some (.int (v52 &&& (3 : Int32))), some (.int v56), some (.int v60), some (.int v64), none, none, none]) (st' := [.int (7 : Int32), .int v56, .ref 1]) rfl ?_
      refine wpl_stat (m' := 3) (me' := lm3) (as := [.int v56, .int (7 : Int32)]) (r := [.ref 1]) rfl rfl rfl rfl rfl ⟨(by first | decide | exact Nat.le_of_ble_eq_true rfl), (by first | decide | exact Nat.le_of_ble_eq_true rfl), (by first | decide | exact Nat.le_of_ble_eq_true rfl), (by first | decide | exact Nat.le_of_ble_eq_true rfl), rfl⟩ (lal_I (lalI.mono h68 fun v71 w70 hh => ?_))
      obtain ⟨s73, rfl, h72⟩ := hh
      refine wpl_sl (n := 7) (pc' := 221) (ls' := [some (.ref 0), none, some (.int x2), some (.ref 1), some (.long x4), none, none, none, none, none, some (.int x10), some (.int (v52 &&& (3 : Int32))), some (.int v56), some (.int v60), some (.int v64), none, none, none]) (st' := [.int (v56 ^^^ v60), .int v64, .int (v60 &&& (1 : Int32)), .int v71, .ref 1]) rfl ?_
      refine wpl_v1 (m' := 2) (me' := cm2) (as := [.int v71, .int (v60 &&& (1 : Int32)), .int v64, .int (v56 ^^^ v60)]) (r := []) rfl rfl rfl rfl rfl ⟨by decide, (by first | decide | exact Nat.le_of_ble_eq_true rfl), (by first | decide | exact Nat.le_of_ble_eq_true rfl), rfl⟩ (cal_I (calI.mono h72 fun v75 s74 h76 => ?_))
      refine wpl_sl (n := 4) (pc' := 229) (ls' := [some (.ref 0), none, some (.int x2), some (.ref 1), some (.long x4), none, none, none, none, none, some (.int x10), some (.int (v52 &&& (3 : Int32))), some (.int v56), some (.int v60), some (.int v64), none, none, none]) (st' := [.int x2, .long x4, .ref 1]) rfl ?_
      refine wpl_stat (m' := 4) (me' := lm4) (as := [.ref 1, .long x4, .int x2]) (r := []) rfl rfl rfl rfl rfl ⟨(by first | decide | exact Nat.le_of_ble_eq_true rfl), (by first | decide | exact Nat.le_of_ble_eq_true rfl), (by first | decide | exact Nat.le_of_ble_eq_true rfl), (by first | decide | exact Nat.le_of_ble_eq_true rfl), rfl⟩ (lal_L (lalL.mono h76 fun v78 w77 hh => ?_))
      obtain ⟨s80, rfl, h79⟩ := hh
      refine wpl_sl (n := 4) (pc' := 238) (ls' := [some (.ref 0), none, some (.int x2), some (.ref 1), some (.long v78), none, none, none, none, none, some (.int x10), some (.int (v52 &&& (3 : Int32))), some (.int v56), some (.int v60), some (.int v64), none, none, none]) (st' := [.int (XT.cmpL v78 (0 : Int64))]) rfl ?_
      refine wpl_if (a := 420) (b := 241) rfl (by decide) rfl rfl (wpl_br (p := (XT.cmpL v78 (0 : Int64)) < (0 : Int32)) ⟨fun hc81 => ?_, fun hc81 => ?_⟩)
      · have h82 := h79.1 hc81
        refine wpl_sl (n := 1) (pc' := 242) (ls' := [some (.ref 0), none, some (.int x2), some (.ref 1), some (.long v78), none, none, none, none, none, some (.int x10), some (.int (v52 &&& (3 : Int32))), some (.int v56), some (.int v60), some (.int v64), none, none, none]) (st' := [.int (0 : Int32)]) rfl ?_
        exact wpl_ret rfl rfl rfl ⟨(0 : Int32), rfl, h82⟩
      · have h83 := h79.2 hc81
        exact wpl_lle (ls := [some (.ref 0), none, some (.int x2), some (.ref 1), some (.long v78), none, none, none, none, none, some (.int x10), none, none, none, none, none, none, none]) ⟨rfl, rfl, rfl, rfl, rfl, trivial⟩ h83
    · have h69 := h65.2 hc67
      refine wpl_sl (n := 2) (pc' := 246) (ls' := [some (.ref 0), none, some (.int x2), some (.ref 1), some (.long x4), none, none, none, none, none, some (.int x10), some (.int (v52 &&& (3 : Int32))), some (.int v56), some (.int v60), some (.int v64), none, none, none]) (st' := [.int (1 : Int32), .int (v52 &&& (3 : Int32))]) rfl ?_
      refine wpl_icmp (a := 296) (b := 249) rfl (by decide) rfl rfl (wpl_br (p := (v52 &&& (3 : Int32)) = (1 : Int32)) ⟨fun hc84 => ?_, fun hc84 => ?_⟩)
      · have h85 := h69.1 hc84
        refine wpl_sl (n := 5) (pc' := 257) (ls' := [some (.ref 0), none, some (.int x2), some (.ref 1), some (.long x4), none, none, none, none, none, some (.int x10), some (.int (v52 &&& (3 : Int32))), some (.int v56), some (.int v60), some (.int v64), none, none, none]) (st' := [.int v60, .int (v56 &&& (127 : Int32)), .ref 1]) rfl ?_
        refine wpl_sl (n := 5) (pc' := 264) (ls' := [some (.ref 0), none, some (.int x2), some (.ref 1), some (.long x4), none, none, none, none, none, some (.int x10), some (.int (v52 &&& (3 : Int32))), some (.int v56), some (.int v60), some (.int v64), none, none, none]) (st' := [.int x2, .int v64, .int (1 : Int32), .int (v60 &&& (127 : Int32)), .int (v56 &&& (127 : Int32)), .ref 1]) rfl ?_
        refine wpl_stat (m' := 3) (me' := lm3) (as := [.int v64, .int x2]) (r := [.int (1 : Int32), .int (v60 &&& (127 : Int32)), .int (v56 &&& (127 : Int32)), .ref 1]) rfl rfl rfl rfl rfl ⟨(by first | decide | exact Nat.le_of_ble_eq_true rfl), (by first | decide | exact Nat.le_of_ble_eq_true rfl), (by first | decide | exact Nat.le_of_ble_eq_true rfl), (by first | decide | exact Nat.le_of_ble_eq_true rfl), rfl⟩ (lal_I (lalI.mono h85 fun v88 w87 hh => ?_))
        obtain ⟨s90, rfl, h89⟩ := hh
        refine wpl_sl (n := 6) (pc' := 274) (ls' := [some (.ref 0), none, some (.int x2), some (.ref 1), some (.long x4), none, none, none, none, none, some (.int x10), some (.int (v52 &&& (3 : Int32))), some (.int v56), some (.int v60), some (.int v64), none, none, none]) (st' := [.int ((XT.ushr v64 (4 : Int32)) &&& (1 : Int32)), .int ((1 : Int32) + v88), .int (v60 &&& (127 : Int32)), .int (v56 &&& (127 : Int32)), .ref 1]) rfl ?_
        refine wpl_v1 (m' := 3) (me' := cm3) (as := [.int (v56 &&& (127 : Int32)), .int (v60 &&& (127 : Int32)), .int ((1 : Int32) + v88), .int ((XT.ushr v64 (4 : Int32)) &&& (1 : Int32))]) (r := []) rfl rfl rfl rfl rfl ⟨by decide, (by first | decide | exact Nat.le_of_ble_eq_true rfl), (by first | decide | exact Nat.le_of_ble_eq_true rfl), rfl⟩ (cal_I (calI.mono h89 fun v92 s91 h93 => ?_))
        refine wpl_sl (n := 4) (pc' := 282) (ls' := [some (.ref 0), none, some (.int x2), some (.ref 1), some (.long x4), none, none, none, none, none, some (.int x10), some (.int (v52 &&& (3 : Int32))), some (.int v56), some (.int v60), some (.int v64), none, none, none]) (st' := [.int x2, .long x4, .ref 1]) rfl ?_
        refine wpl_stat (m' := 4) (me' := lm4) (as := [.ref 1, .long x4, .int x2]) (r := []) rfl rfl rfl rfl rfl ⟨(by first | decide | exact Nat.le_of_ble_eq_true rfl), (by first | decide | exact Nat.le_of_ble_eq_true rfl), (by first | decide | exact Nat.le_of_ble_eq_true rfl), (by first | decide | exact Nat.le_of_ble_eq_true rfl), rfl⟩ (lal_L (lalL.mono h93 fun v95 w94 hh => ?_))
        obtain ⟨s97, rfl, h96⟩ := hh
        refine wpl_sl (n := 4) (pc' := 291) (ls' := [some (.ref 0), none, some (.int x2), some (.ref 1), some (.long v95), none, none, none, none, none, some (.int x10), some (.int (v52 &&& (3 : Int32))), some (.int v56), some (.int v60), some (.int v64), none, none, none]) (st' := [.int (XT.cmpL v95 (0 : Int64))]) rfl ?_
        refine wpl_if (a := 420) (b := 294) rfl (by decide) rfl rfl (wpl_br (p := (XT.cmpL v95 (0 : Int64)) < (0 : Int32)) ⟨fun hc98 => ?_, fun hc98 => ?_⟩)
        · have h99 := h96.1 hc98
          refine wpl_sl (n := 1) (pc' := 295) (ls' := [some (.ref 0), none, some (.int x2), some (.ref 1), some (.long v95), none, none, none, none, none, some (.int x10), some (.int (v52 &&& (3 : Int32))), some (.int v56), some (.int v60), some (.int v64), none, none, none]) (st' := [.int (0 : Int32)]) rfl ?_
          exact wpl_ret rfl rfl rfl ⟨(0 : Int32), rfl, h99⟩
        · have h100 := h96.2 hc98
          exact wpl_lle (ls := [some (.ref 0), none, some (.int x2), some (.ref 1), some (.long v95), none, none, none, none, none, some (.int x10), none, none, none, none, none, none, none]) ⟨rfl, rfl, rfl, rfl, rfl, trivial⟩ h100
      · have h86 := h69.2 hc84
        refine wpl_sl (n := 2) (pc' := 299) (ls' := [some (.ref 0), none, some (.int x2), some (.ref 1), some (.long x4), none, none, none, none, none, some (.int x10), some (.int (v52 &&& (3 : Int32))), some (.int v56), some (.int v60), some (.int v64), none, none, none]) (st' := [.int (2 : Int32), .int (v52 &&& (3 : Int32))]) rfl ?_
        refine wpl_icmp (a := 385) (b := 302) rfl (by decide) rfl rfl (wpl_br (p := (v52 &&& (3 : Int32)) = (2 : Int32)) ⟨fun hc101 => ?_, fun hc101 => ?_⟩)
        · have h102 := h86.1 hc101
          refine wpl_sl (n := 3) (pc' := 306) (ls' := [some (.ref 0), none, some (.int x2), some (.ref 1), some (.long x4), none, none, none, none, none, some (.int x10), some (.int (v52 &&& (3 : Int32))), some (.int v56), some (.int v60), some (.int v64), none, none, none]) (st' := [.int (v56 &&& (1 : Int32))]) rfl ?_
          have hm105 : ∀ m104, m104 = (if (v56 &&& (1 : Int32)) = (0 : Int32) then (127 : Int32) else (v60 &&& (127 : Int32))) → wplI PP QQ (some (N, sg)) 0 lm0 319 [some (.ref 0), none, some (.int x2), some (.ref 1), some (.long x4), none, none, none, none, none, some (.int x10), some (.int (v52 &&& (3 : Int32))), some (.int v56), some (.int v60), some (.int v64), none, none, none] [.int m104] (W1 s66) Q := by
            intro m104 em104
            have h106 := h102 m104 em104
            refine wpl_sl (n := 3) (pc' := 324) (ls' := [some (.ref 0), none, some (.int x2), some (.ref 1), some (.long x4), none, none, none, none, none, some (.int x10), some (.int (v52 &&& (3 : Int32))), some (.int v56), some (.int v60), some (.int v64), some (.int m104), some (.int (1 : Int32)), none]) (st' := []) rfl ?_
            exact wpl_lle (ls := [some (.ref 0), none, some (.int x2), some (.ref 1), some (.long x4), none, none, none, none, none, some (.int x10), none, none, none, none, some (.int m104), some (.int (1 : Int32)), none]) ⟨rfl, rfl, rfl, rfl, rfl, rfl, rfl, trivial⟩ h106
          refine wpl_if (a := 314) (b := 309) rfl (by decide) rfl rfl (wpl_br (p := (v56 &&& (1 : Int32)) = (0 : Int32)) ⟨fun hc107 => ?_, fun hc107 => ?_⟩)
          · refine wpl_sl (n := 2) (pc' := 319) (ls' := [some (.ref 0), none, some (.int x2), some (.ref 1), some (.long x4), none, none, none, none, none, some (.int x10), some (.int (v52 &&& (3 : Int32))), some (.int v56), some (.int v60), some (.int v64), none, none, none]) (st' := [.int (127 : Int32)]) rfl ?_
            first | exact hm105 _ (by simp only [if_pos hc107]) | exact wpl_lle (by repeat (first | exact trivial | refine ⟨rfl, ?_⟩)) (hm105 _ (by simp only [if_pos hc107]))
          · refine wpl_sl (n := 3) (pc' := 319) (ls' := [some (.ref 0), none, some (.int x2), some (.ref 1), some (.long x4), none, none, none, none, none, some (.int x10), some (.int (v52 &&& (3 : Int32))), some (.int v56), some (.int v60), some (.int v64), none, none, none]) (st' := [.int (v60 &&& (127 : Int32))]) rfl ?_
            first | exact hm105 _ (by simp only [if_neg hc107]) | exact wpl_lle (by repeat (first | exact trivial | refine ⟨rfl, ?_⟩)) (hm105 _ (by simp only [if_neg hc107]))
        · have h103 := h86.2 hc101
          refine wpl_sl (n := 3) (pc' := 390) (ls' := [some (.ref 0), none, some (.int x2), some (.ref 1), some (.long x4), none, none, none, none, none, some (.int x10), some (.int (v52 &&& (3 : Int32))), some (.int v56), some (.int v60), some (.int v64), none, none, none]) (st' := [.int (7 : Int32), .int v56, .ref 1]) rfl ?_
          refine wpl_stat (m' := 3) (me' := lm3) (as := [.int v56, .int (7 : Int32)]) (r := [.ref 1]) rfl rfl rfl rfl rfl ⟨(by first | decide | exact Nat.le_of_ble_eq_true rfl), (by first | decide | exact Nat.le_of_ble_eq_true rfl), (by first | decide | exact Nat.le_of_ble_eq_true rfl), (by first | decide | exact Nat.le_of_ble_eq_true rfl), rfl⟩ (lal_I (lalI.mono h103 fun v109 w108 hh => ?_))
          obtain ⟨s111, rfl, h110⟩ := hh
          refine wpl_sl (n := 3) (pc' := 398) (ls' := [some (.ref 0), none, some (.int x2), some (.ref 1), some (.long x4), none, none, none, none, none, some (.int x10), some (.int (v52 &&& (3 : Int32))), some (.int v56), some (.int v60), some (.int v64), none, none, none]) (st' := [.int (v60 &&& (127 : Int32)), .int v109, .ref 1]) rfl ?_
          refine wpl_v1 (m' := 4) (me' := cm4) (as := [.int v109, .int (v60 &&& (127 : Int32))]) (r := []) rfl rfl rfl rfl rfl ⟨by decide, (by first | decide | exact Nat.le_of_ble_eq_true rfl), (by first | decide | exact Nat.le_of_ble_eq_true rfl), rfl⟩ (cal_I (calI.mono h110 fun v113 s112 h114 => ?_))
          refine wpl_sl (n := 4) (pc' := 406) (ls' := [some (.ref 0), none, some (.int x2), some (.ref 1), some (.long x4), none, none, none, none, none, some (.int x10), some (.int (v52 &&& (3 : Int32))), some (.int v56), some (.int v60), some (.int v64), none, none, none]) (st' := [.int x2, .long x4, .ref 1]) rfl ?_
          refine wpl_stat (m' := 4) (me' := lm4) (as := [.ref 1, .long x4, .int x2]) (r := []) rfl rfl rfl rfl rfl ⟨(by first | decide | exact Nat.le_of_ble_eq_true rfl), (by first | decide | exact Nat.le_of_ble_eq_true rfl), (by first | decide | exact Nat.le_of_ble_eq_true rfl), (by first | decide | exact Nat.le_of_ble_eq_true rfl), rfl⟩ (lal_L (lalL.mono h114 fun v116 w115 hh => ?_))
          obtain ⟨s118, rfl, h117⟩ := hh
          refine wpl_sl (n := 4) (pc' := 415) (ls' := [some (.ref 0), none, some (.int x2), some (.ref 1), some (.long v116), none, none, none, none, none, some (.int x10), some (.int (v52 &&& (3 : Int32))), some (.int v56), some (.int v60), some (.int v64), none, none, none]) (st' := [.int (XT.cmpL v116 (0 : Int64))]) rfl ?_
          refine wpl_if (a := 420) (b := 418) rfl (by decide) rfl rfl (wpl_br (p := (XT.cmpL v116 (0 : Int64)) < (0 : Int32)) ⟨fun hc119 => ?_, fun hc119 => ?_⟩)
          · have h120 := h117.1 hc119
            refine wpl_sl (n := 1) (pc' := 419) (ls' := [some (.ref 0), none, some (.int x2), some (.ref 1), some (.long v116), none, none, none, none, none, some (.int x10), some (.int (v52 &&& (3 : Int32))), some (.int v56), some (.int v60), some (.int v64), none, none, none]) (st' := [.int (0 : Int32)]) rfl ?_
            exact wpl_ret rfl rfl rfl ⟨(0 : Int32), rfl, h120⟩
          · have h121 := h117.2 hc119
            exact wpl_lle (ls := [some (.ref 0), none, some (.int x2), some (.ref 1), some (.long v116), none, none, none, none, none, some (.int x10), none, none, none, none, none, none, none]) ⟨rfl, rfl, rfl, rfl, rfl, trivial⟩ h121
  · have h50 := h.2 hc48
    refine wpl_sl (n := 1) (pc' := 427) (ls' := [some (.ref 0), none, some (.int x2), some (.ref 1), some (.long x4), none, none, none, none, none, some (.int x10), none, none, none, none, none, none, none]) (st' := [.int (1 : Int32)]) rfl ?_
    exact wpl_ret rfl rfl rfl ⟨(1 : Int32), rfl, h50⟩
theorem l0_420 (N : Nat) (sg : Nat → Int32) (x2 : Int32) (x4 : Int64) (x10 : Int32)  (Q : Int32 → Wd → Prop) (h : wplI PP QQ (some (N, sg)) 0 lm0 150 [some (.ref 0), none, some (.int x2), some (.ref 1), some (.long x4), none, none, none, none, none, some (.int (x10 + (4 : Int32))), none, none, none, none, none, none, none] [] (W1 s) Q) : wplI PP QQ (some (N, sg)) 0 lm0 420 [some (.ref 0), none, some (.int x2), some (.ref 1), some (.long x4), none, none, none, none, none, some (.int x10), none, none, none, none, none, none, none] [] (W1 s) Q := by
  refine wpl_sl (n := 2) (pc' := 150) (ls' := [some (.ref 0), none, some (.int x2), some (.ref 1), some (.long x4), none, none, none, none, none, some (.int (x10 + (4 : Int32))), none, none, none, none, none, none, none]) (st' := []) rfl ?_
  exact h
theorem l0_324 (N : Nat) (sg : Nat → Int32) (x2 : Int32) (x4 : Int64) (x10 : Int32) (x15 : Int32) (x16 : Int32)  (Q : Int32 → Wd → Prop) (h : ((x2 < x16) → wplI PP QQ (some (N, sg)) 0 lm0 420 [some (.ref 0), none, some (.int x2), some (.ref 1), some (.long x4), none, none, none, none, none, some (.int x10), none, none, none, none, none, none, none] [] (W1 s) Q) ∧ (¬ (x2 < x16) → wplI PP QQ (some (N, sg)) 0 lm0 333 [some (.ref 0), none, some (.int x2), some (.ref 1), some (.long x4), none, none, none, none, none, some (.int x10), none, none, none, none, some (.int x15), some (.int x16), some (.int (0 : Int32))] [] (W1 s) Q)) : wplI PP QQ (some (N, sg)) 0 lm0 324 [some (.ref 0), none, some (.int x2), some (.ref 1), some (.long x4), none, none, none, none, none, some (.int x10), none, none, none, none, some (.int x15), some (.int x16), none] [] (W1 s) Q := by
  refine wpl_sl (n := 2) (pc' := 327) (ls' := [some (.ref 0), none, some (.int x2), some (.ref 1), some (.long x4), none, none, none, none, none, some (.int x10), none, none, none, none, some (.int x15), some (.int x16), none]) (st' := [.int x2, .int x16]) rfl ?_
  refine wpl_icmp (a := 382) (b := 330) rfl (by decide) rfl rfl (wpl_br (p := x2 < x16) ⟨fun hc122 => ?_, fun hc122 => ?_⟩)
  · have h123 := h.1 hc122
    refine wpl_sl (n := 1) (pc' := 420) (ls' := [some (.ref 0), none, some (.int x2), some (.ref 1), some (.long x4), none, none, none, none, none, some (.int x10), none, none, none, none, some (.int x15), some (.int x16), none]) (st' := []) rfl ?_
    exact wpl_lle (ls := [some (.ref 0), none, some (.int x2), some (.ref 1), some (.long x4), none, none, none, none, none, some (.int x10), none, none, none, none, none, none, none]) ⟨rfl, rfl, rfl, rfl, rfl, trivial⟩ h123
  · have h124 := h.2 hc122
    refine wpl_sl (n := 2) (pc' := 333) (ls' := [some (.ref 0), none, some (.int x2), some (.ref 1), some (.long x4), none, none, none, none, none, some (.int x10), none, none, none, none, some (.int x15), some (.int x16), some (.int (0 : Int32))]) (st' := []) rfl ?_
    exact h124
theorem l0_333 (N : Nat) (sg : Nat → Int32) (x2 : Int32) (x4 : Int64) (x10 : Int32) (x15 : Int32) (x16 : Int32) (x17 : Int32)  (Q : Int32 → Wd → Prop) (h : ((x17 < (2 : Int32)) → calI PP 3 11 [.ref 0, .int x15, .int (127 : Int32), .int x16, .int x17] s (fun v129 s128 => lalL PP QQ (some (N, sg)) 4 [.ref 1, .long x4, .int x2] (W1 s128) (fun v132 w131 => ∃ s134, w131 = W1 s134 ∧ ((((XT.cmpL v132 (0 : Int64)) < (0 : Int32)) → Q (0 : Int32) (W1 s134)) ∧ (¬ ((XT.cmpL v132 (0 : Int64)) < (0 : Int32)) → wplI PP QQ (some (N, sg)) 0 lm0 333 [some (.ref 0), none, some (.int x2), some (.ref 1), some (.long v132), none, none, none, none, none, some (.int x10), none, none, none, none, some (.int x15), some (.int x16), some (.int (x17 + (1 : Int32)))] [] (W1 s134) Q))))) ∧ (¬ (x17 < (2 : Int32)) → wplI PP QQ (some (N, sg)) 0 lm0 324 [some (.ref 0), none, some (.int x2), some (.ref 1), some (.long x4), none, none, none, none, none, some (.int x10), none, none, none, none, some (.int x15), some (.int (x16 + (1 : Int32))), none] [] (W1 s) Q)) : wplI PP QQ (some (N, sg)) 0 lm0 333 [some (.ref 0), none, some (.int x2), some (.ref 1), some (.long x4), none, none, none, none, none, some (.int x10), none, none, none, none, some (.int x15), some (.int x16), some (.int x17)] [] (W1 s) Q := by
  refine wpl_sl (n := 2) (pc' := 336) (ls' := [some (.ref 0), none, some (.int x2), some (.ref 1), some (.long x4), none, none, none, none, none, some (.int x10), none, none, none, none, some (.int x15), some (.int x16), some (.int x17)]) (st' := [.int (2 : Int32), .int x17]) rfl ?_
  refine wpl_icmp (a := 376) (b := 339) rfl (by decide) rfl rfl (wpl_br (p := x17 < (2 : Int32)) ⟨fun hc125 => ?_, fun hc125 => ?_⟩)
  · have h126 := h.1 hc125
    refine wpl_sl (n := 5) (pc' := 348) (ls' := [some (.ref 0), none, some (.int x2), some (.ref 1), some (.long x4), none, none, none, none, none, some (.int x10), none, none, none, none, some (.int x15), some (.int x16), some (.int x17)]) (st' := [.int x17, .int x16, .int (127 : Int32), .int x15, .ref 1]) rfl ?_
    refine wpl_v1 (m' := 3) (me' := cm3) (as := [.int x15, .int (127 : Int32), .int x16, .int x17]) (r := []) rfl rfl rfl rfl rfl ⟨by decide, (by first | decide | exact Nat.le_of_ble_eq_true rfl), (by first | decide | exact Nat.le_of_ble_eq_true rfl), rfl⟩ (cal_I (calI.mono h126 fun v129 s128 h130 => ?_))
    refine wpl_sl (n := 4) (pc' := 356) (ls' := [some (.ref 0), none, some (.int x2), some (.ref 1), some (.long x4), none, none, none, none, none, some (.int x10), none, none, none, none, some (.int x15), some (.int x16), some (.int x17)]) (st' := [.int x2, .long x4, .ref 1]) rfl ?_
    refine wpl_stat (m' := 4) (me' := lm4) (as := [.ref 1, .long x4, .int x2]) (r := []) rfl rfl rfl rfl rfl ⟨(by first | decide | exact Nat.le_of_ble_eq_true rfl), (by first | decide | exact Nat.le_of_ble_eq_true rfl), (by first | decide | exact Nat.le_of_ble_eq_true rfl), (by first | decide | exact Nat.le_of_ble_eq_true rfl), rfl⟩ (lal_L (lalL.mono h130 fun v132 w131 hh => ?_))
    obtain ⟨s134, rfl, h133⟩ := hh
    refine wpl_sl (n := 4) (pc' := 365) (ls' := [some (.ref 0), none, some (.int x2), some (.ref 1), some (.long v132), none, none, none, none, none, some (.int x10), none, none, none, none, some (.int x15), some (.int x16), some (.int x17)]) (st' := [.int (XT.cmpL v132 (0 : Int64))]) rfl ?_
    refine wpl_if (a := 370) (b := 368) rfl (by decide) rfl rfl (wpl_br (p := (XT.cmpL v132 (0 : Int64)) < (0 : Int32)) ⟨fun hc135 => ?_, fun hc135 => ?_⟩)
    · have h136 := h133.1 hc135
      refine wpl_sl (n := 1) (pc' := 369) (ls' := [some (.ref 0), none, some (.int x2), some (.ref 1), some (.long v132), none, none, none, none, none, some (.int x10), none, none, none, none, some (.int x15), some (.int x16), some (.int x17)]) (st' := [.int (0 : Int32)]) rfl ?_
      exact wpl_ret rfl rfl rfl ⟨(0 : Int32), rfl, h136⟩
    · have h137 := h133.2 hc135
      refine wpl_sl (n := 2) (pc' := 333) (ls' := [some (.ref 0), none, some (.int x2), some (.ref 1), some (.long v132), none, none, none, none, none, some (.int x10), none, none, none, none, some (.int x15), some (.int x16), some (.int (x17 + (1 : Int32)))]) (st' := []) rfl ?_
      exact h137
  · have h127 := h.2 hc125
    refine wpl_sl (n := 2) (pc' := 324) (ls' := [some (.ref 0), none, some (.int x2), some (.ref 1), some (.long x4), none, none, none, none, none, some (.int x10), none, none, none, none, some (.int x15), some (.int (x16 + (1 : Int32))), some (.int x17)]) (st' := []) rfl ?_
    exact wpl_lle (ls := [some (.ref 0), none, some (.int x2), some (.ref 1), some (.long x4), none, none, none, none, none, some (.int x10), none, none, none, none, some (.int x15), some (.int (x16 + (1 : Int32))), none]) ⟨rfl, rfl, rfl, rfl, rfl, rfl, rfl, trivial⟩ h127
/-! bits of ints and longs -/
def own_bt (x : Int32) (j : Nat) : Bool := x.toBitVec.getLsbD j
def own_bl (x : Int64) (j : Nat) : Bool := x.toBitVec.getLsbD j
theorem own_i32 (i : Int32) (h0 : 0 ≤ i.toInt) : i = Int32.ofNat (ix i) := by
  have k := ix_int h0
  have r := rng32 i
  rw [i32_eq, Int32.toInt_ofNat_of_lt (by omega)]; omega
theorem own_sh31 (i : Int32) (h0 : 0 ≤ i.toInt) (h1 : i.toInt < 32) : (i &&& 31).toBitVec.smod 32 = BitVec.ofNat 32 (ix i) ∧ ix i < 32 := by
  have k := ix_int h0
  have hn : ix i < 32 := by omega
  have key : ∀ n : Fin 32, (Int32.ofNat n.val &&& 31).toBitVec.smod 32 = BitVec.ofNat 32 n.val := by decide
  have := key ⟨ix i, hn⟩
  rw [← own_i32 i h0] at this
  exact ⟨this, hn⟩
theorem own_bt_one (y : Int32) : (y &&& 1 = 0) ↔ own_bt y 0 = false := by
  unfold own_bt
  constructor
  · intro h
    have := congrArg (fun z => z.toBitVec.getLsbD 0) h
    simpa using this
  · intro h
    apply Int32.toBitVec_inj.mp
    apply BitVec.eq_of_getLsbD_eq
    intro j hj
    rw [Int32.toBitVec_and, BitVec.getLsbD_and]
    have e : (1 : Int32).toBitVec = 1#32 := by decide
    have z : (0 : Int32).toBitVec = 0#32 := by decide
    rw [e, z, BitVec.getLsbD_one]
    by_cases q : j = 0
    · subst q; rw [h, Bool.false_and]; simp
    · simp [q]
theorem own_bt_sar (x i : Int32) (h0 : 0 ≤ i.toInt) (h1 : i.toInt < 32) : own_bt (x >>> (i &&& 31)) 0 = own_bt x (ix i) := by
  obtain ⟨e, hn⟩ := own_sh31 i h0 h1
  unfold own_bt
  rw [Int32.toBitVec_shiftRight, e, BitVec.sshiftRight_eq', BitVec.getLsbD_sshiftRight]
  have e2 : (BitVec.ofNat 32 (ix i)).toNat = ix i := by simp; omega
  rw [e2]; simp [hn]
theorem own_bt_shr (x i : Int32) (h0 : 0 ≤ i.toInt) (h1 : i.toInt < 32) : ((x >>> (i &&& 31)) &&& 1 = 0) ↔ own_bt x (ix i) = false := by
  rw [own_bt_one, own_bt_sar x i h0 h1]
theorem own_bt_shl (i : Int32) (h0 : 0 ≤ i.toInt) (h1 : i.toInt < 32) (j : Nat) (hj : j < 32) : own_bt (1 <<< (i &&& 31)) j = decide (j = ix i) := by
  obtain ⟨e, hn⟩ := own_sh31 i h0 h1
  unfold own_bt
  have e2 : (BitVec.ofNat 32 (ix i)).toNat = ix i := by simp; omega
  have e1 : (1 : Int32).toBitVec = 1#32 := by decide
  rw [Int32.toBitVec_shiftLeft, e, BitVec.shiftLeft_eq', e2, BitVec.getLsbD_shiftLeft, e1, BitVec.getLsbD_one]
  by_cases q : j = ix i
  · subst q; simp [hj]
  · by_cases l : j < ix i
    · simp [l, q]
    · have : ¬ (j - ix i = 0) := by omega
      simp [q, this]
theorem own_bt_or (x i : Int32) (h0 : 0 ≤ i.toInt) (h1 : i.toInt < 32) (j : Nat) (hj : j < 32) : own_bt (x ||| (1 <<< (i &&& 31))) j = (own_bt x j || decide (j = ix i)) := by
  rw [← own_bt_shl i h0 h1 j hj]
  simp [own_bt]
theorem own_bt_neg (x : Int32) (j : Nat) (hj : j < 32) : own_bt (x ^^^ (-1)) j = !own_bt x j := by
  have e : (-1 : Int32).toBitVec = BitVec.allOnes 32 := by decide
  simp [own_bt, e, hj]
theorem own_bt_and (x y : Int32) (j : Nat) : own_bt (x &&& y) j = (own_bt x j && own_bt y j) := by simp [own_bt]
theorem own_bt_clr (x i : Int32) (h0 : 0 ≤ i.toInt) (h1 : i.toInt < 32) (j : Nat) (hj : j < 32) : own_bt (x &&& ((1 <<< (i &&& 31)) ^^^ (-1))) j = (own_bt x j && !decide (j = ix i)) := by
  rw [own_bt_and, own_bt_neg _ _ hj, own_bt_shl i h0 h1 j hj]
theorem own_bt_zero (x : Int32) : x = 0 ↔ ∀ j, j < 32 → own_bt x j = false := by
  constructor
  · intro h j _; rw [h]; simp [own_bt]
  · intro h
    apply Int32.toBitVec_inj.mp
    apply BitVec.eq_of_getLsbD_eq
    intro j hj
    have := h j hj
    have z : (0 : Int32).toBitVec = 0#32 := by decide
    rw [z]; simpa [own_bt] using this
theorem own_bt_0 (j : Nat) : own_bt 0 j = false := by simp [own_bt]
theorem own_bt_tst (x i : Int32) (h0 : 0 ≤ i.toInt) (h1 : i.toInt < 32) : (x &&& (1 <<< (i &&& 31)) = 0) ↔ own_bt x (ix i) = false := by
  have k := ix_int h0
  rw [own_bt_zero]
  constructor
  · intro h
    have := h (ix i) (by omega)
    rw [own_bt_and, own_bt_shl i h0 h1 _ (by omega)] at this
    simpa using this
  · intro h j hj
    rw [own_bt_and, own_bt_shl i h0 h1 _ hj]
    by_cases z : j = ix i
    · rw [z, h]; rfl
    · simp [z]
theorem own_bt_ext {x y : Int32} (h : ∀ j, j < 32 → own_bt x j = own_bt y j) : x = y :=
  Int32.toBitVec_inj.mp (BitVec.eq_of_getLsbD_eq h)
theorem own_bt_s16 (y : Int32) (j : Nat) (hj : j < 16) : own_bt (y <<< ((16 : Int32) &&& 31)) j = false := by
  have e : ((16 : Int32) &&& 31).toBitVec.smod 32 = 16#32 := by decide
  have e2 : (16#32).toNat = 16 := by decide
  unfold own_bt
  rw [Int32.toBitVec_shiftLeft, e, BitVec.shiftLeft_eq', e2, BitVec.getLsbD_shiftLeft]
  simp [hj]
theorem own_bt_15 (j : Nat) (hj : j < 32) : own_bt 15 j = decide (j < 4) := by
  have b : ∀ j : Fin 32, own_bt 15 j.val = decide (j.val < 4) := by decide
  exact b ⟨j, hj⟩
theorem own_bt_64k (j : Nat) (hj : j < 32) : own_bt 65535 j = decide (j < 16) := by
  have b : ∀ j : Fin 32, own_bt 65535 j.val = decide (j.val < 16) := by decide
  exact b ⟨j, hj⟩
/-! nibbles of a long -/
theorem own_sh63 (i : Int32) (h0 : 0 ≤ i.toInt) (h1 : i.toInt < 16) : ((4 * i).toInt64 &&& 63).toBitVec.smod 64 = BitVec.ofNat 64 (4 * ix i) ∧ ((4 * i).toInt64.toUInt64 &&& Int64.toUInt64 63).toBitVec % 64 = BitVec.ofNat 64 (4 * ix i) ∧ ix i < 16 := by
  have k := ix_int h0
  have hn : ix i < 16 := by omega
  have key : ∀ n : Fin 16, ((4 * Int32.ofNat n.val).toInt64 &&& 63).toBitVec.smod 64 = BitVec.ofNat 64 (4 * n.val) ∧ ((4 * Int32.ofNat n.val).toInt64.toUInt64 &&& Int64.toUInt64 63).toBitVec % 64 = BitVec.ofNat 64 (4 * n.val) := by decide
  have := key ⟨ix i, hn⟩
  rw [← own_i32 i h0] at this
  exact ⟨this.1, this.2, hn⟩
def own_nb (x : Int64) (i : Int32) : Int64 := Jvm.Free.XT.ushrL x (4 * i) &&& 15
theorem own_nb_bit (x : Int64) (i : Int32) (h0 : 0 ≤ i.toInt) (h1 : i.toInt < 16) (j : Nat) (hj : j < 64) : own_bl (own_nb x i) j = (own_bl x (4 * ix i + j) && decide (j < 4)) := by
  obtain ⟨_, e, hn⟩ := own_sh63 i h0 h1
  have e2 : (BitVec.ofNat 64 (4 * ix i)).toNat = 4 * ix i := by simp; omega
  have f : (15 : Int64).toBitVec = 15#64 := by decide
  have b15 : ∀ j : Fin 64, (15#64).getLsbD j.val = decide (j.val < 4) := by decide
  have c15 := b15 ⟨j, hj⟩
  simp only at c15
  unfold own_bl own_nb Jvm.Free.XT.ushrL
  rw [Int64.toBitVec_and, BitVec.getLsbD_and, f, c15]
  have g : ((x.toUInt64 >>> ((4 * i).toInt64.toUInt64 &&& Int64.toUInt64 63)).toInt64).toBitVec = x.toBitVec >>> (4 * ix i) := by
    show (x.toUInt64 >>> ((4 * i).toInt64.toUInt64 &&& Int64.toUInt64 63)).toBitVec = _
    rw [UInt64.toBitVec_shiftRight, e, BitVec.ushiftRight_eq', e2]
    rfl
  rw [g, BitVec.getLsbD_ushiftRight]
theorem own_bl_ext {x y : Int64} (h : ∀ j, j < 64 → own_bl x j = own_bl y j) : x = y :=
  Int64.toBitVec_inj.mp (BitVec.eq_of_getLsbD_eq h)
theorem own_bl_sml (v : Int32) (h0 : 0 ≤ v.toInt) (h1 : v.toInt < 16) (j : Nat) : 4 ≤ j → own_bl (Int32.toInt64 v) j = false := by
  intro hj
  have k := ix_int h0
  have hn : ix v < 16 := by omega
  have key : ∀ n : Fin 16, (Int32.ofNat n.val).toInt64.toBitVec = BitVec.ofNat 64 n.val := by decide
  have := key ⟨ix v, hn⟩
  rw [← own_i32 v h0] at this
  unfold own_bl
  rw [this]
  simp only [BitVec.getLsbD_ofNat]
  have : (ix v).testBit j = false := Nat.testBit_lt_two_pow (Nat.lt_of_lt_of_le hn (by
    have : 2 ^ 4 ≤ 2 ^ j := Nat.pow_le_pow_right (by decide) hj
    omega))
  simp [this]
/-- nibble i set to v -/
def own_ns4 (x : Int64) (i v : Int32) : Int64 := (x &&& (((15 : Int64) <<< ((4 * i).toInt64 &&& 63)) ^^^ (-1 : Int64))) ||| (Int32.toInt64 v <<< ((4 * i).toInt64 &&& 63))
theorem own_ns4_bit (x : Int64) (i v : Int32) (h0 : 0 ≤ i.toInt) (h1 : i.toInt < 16) (v0 : 0 ≤ v.toInt) (v1 : v.toInt < 16) (j : Nat) (hj : j < 64) : own_bl (own_ns4 x i v) j = if 4 * ix i ≤ j ∧ j < 4 * ix i + 4 then own_bl (Int32.toInt64 v) (j - 4 * ix i) else own_bl x j := by
  obtain ⟨e, _, hn⟩ := own_sh63 i h0 h1
  have e2 : (BitVec.ofNat 64 (4 * ix i)).toNat = 4 * ix i := by simp; omega
  have f : (15 : Int64).toBitVec = 15#64 := by decide
  have m1 : (-1 : Int64).toBitVec = BitVec.allOnes 64 := by decide
  have b15 : ∀ j : Nat, j < 64 → (15#64).getLsbD j = decide (j < 4) := fun j hj => by
    have b : ∀ j : Fin 64, (15#64).getLsbD j.val = decide (j.val < 4) := by decide
    exact b ⟨j, hj⟩
  have sml := own_bl_sml v v0 v1
  unfold own_bl at *
  unfold own_ns4
  rw [Int64.toBitVec_or, Int64.toBitVec_and, Int64.toBitVec_xor, Int64.toBitVec_shiftLeft, Int64.toBitVec_shiftLeft, e, BitVec.shiftLeft_eq', BitVec.shiftLeft_eq', e2, f, m1]
  rw [BitVec.getLsbD_or, BitVec.getLsbD_and, BitVec.getLsbD_xor, BitVec.getLsbD_shiftLeft, BitVec.getLsbD_shiftLeft, BitVec.getLsbD_allOnes, b15 _ (by omega)]
  by_cases l : j < 4 * ix i
  · rw [if_neg (by omega)]; simp [l, hj]
  · by_cases u : j < 4 * ix i + 4
    · rw [if_pos (by omega)]
      have : j - 4 * ix i < 4 := by omega
      simp [l, hj, this]
    · rw [if_neg (by omega), sml _ (by omega)]
      have : ¬ (j - 4 * ix i < 4) := by omega
      simp [hj, this]
theorem own_nb_set (x : Int64) (i v : Int32) (h0 : 0 ≤ i.toInt) (h1 : i.toInt < 16) (v0 : 0 ≤ v.toInt) (v1 : v.toInt < 16) (k : Int32) (k0 : 0 ≤ k.toInt) (k1 : k.toInt < 16) : own_nb (own_ns4 x i v) k = if k = i then Int32.toInt64 v else own_nb x k := by
  have ki := ix_int h0
  have kk := ix_int k0
  apply own_bl_ext
  intro j hj
  rw [own_nb_bit _ _ k0 k1 j hj]
  by_cases q : j < 4
  · rw [own_ns4_bit x i v h0 h1 v0 v1 _ (by omega)]
    by_cases z : k = i
    · rw [if_pos z]; subst z; rw [if_pos (by omega), Nat.add_sub_cancel_left]; simp [q]
    · rw [if_neg z, own_nb_bit _ _ k0 k1 j hj]
      rw [i32_eq] at z
      rw [if_neg (by omega)]
  · have : decide (j < 4) = false := by simp [q]
    rw [this, Bool.and_false]
    by_cases z : k = i
    · rw [if_pos z, own_bl_sml v v0 v1 j (by omega)]
    · rw [if_neg z, own_nb_bit _ _ k0 k1 j hj, this, Bool.and_false]

/-! single bits of a long -/
theorem own_sh64 (i : Int32) (h0 : 0 ≤ i.toInt) (h1 : i.toInt < 64) : (i.toInt64 &&& 63).toBitVec.smod 64 = BitVec.ofNat 64 (ix i) ∧ (i.toInt64.toUInt64 &&& Int64.toUInt64 63).toBitVec % 64 = BitVec.ofNat 64 (ix i) ∧ ix i < 64 := by
  have k := ix_int h0
  have hn : ix i < 64 := by omega
  have key : ∀ n : Fin 64, ((Int32.ofNat n.val).toInt64 &&& 63).toBitVec.smod 64 = BitVec.ofNat 64 n.val ∧ ((Int32.ofNat n.val).toInt64.toUInt64 &&& Int64.toUInt64 63).toBitVec % 64 = BitVec.ofNat 64 n.val := by decide
  have := key ⟨ix i, hn⟩
  rw [← own_i32 i h0] at this
  exact ⟨this.1, this.2, hn⟩
theorem own_bl_ushr (x : Int64) (i : Int32) (h0 : 0 ≤ i.toInt) (h1 : i.toInt < 64) (j : Nat) : own_bl (Jvm.Free.XT.ushrL x i) j = own_bl x (ix i + j) := by
  obtain ⟨_, e, hn⟩ := own_sh64 i h0 h1
  have e2 : (BitVec.ofNat 64 (ix i)).toNat = ix i := by simp; omega
  unfold own_bl Jvm.Free.XT.ushrL
  have g : ((x.toUInt64 >>> (i.toInt64.toUInt64 &&& Int64.toUInt64 63)).toInt64).toBitVec = x.toBitVec >>> (ix i) := by
    show (x.toUInt64 >>> (i.toInt64.toUInt64 &&& Int64.toUInt64 63)).toBitVec = _
    rw [UInt64.toBitVec_shiftRight, e, BitVec.ushiftRight_eq', e2]
    rfl
  rw [g, BitVec.getLsbD_ushiftRight]
theorem own_bl_zero (x : Int64) : x = 0 ↔ ∀ j, j < 64 → own_bl x j = false := by
  constructor
  · intro h j _; rw [h]; simp [own_bl]
  · intro h
    apply own_bl_ext
    intro j hj
    rw [h j hj]; simp [own_bl]
theorem own_bl_hi (x : Int64) (j : Nat) (h : 64 ≤ j) : own_bl x j = false := by
  unfold own_bl; exact BitVec.getLsbD_of_ge _ _ h
theorem own_bl_tst (x : Int64) (i : Int32) (h0 : 0 ≤ i.toInt) (h1 : i.toInt < 64) : (Jvm.Free.XT.ushrL x i &&& 1 = 0) ↔ own_bl x (ix i) = false := by
  have e1 : (1 : Int64).toBitVec = 1#64 := by decide
  rw [own_bl_zero]
  have b : ∀ j, own_bl (Jvm.Free.XT.ushrL x i &&& 1) j = (own_bl x (ix i + j) && decide (j = 0)) := fun j => by
    rw [← own_bl_ushr x i h0 h1 j]
    unfold own_bl
    rw [Int64.toBitVec_and, BitVec.getLsbD_and, e1, BitVec.getLsbD_one]
    simp
  constructor
  · intro h; have := h 0 (by decide); rw [b] at this; simpa using this
  · intro h j hj
    rw [b]
    by_cases w : j = 0
    · rw [w]; simpa using h
    · simp [w]
theorem own_bl_one (i : Int32) (h0 : 0 ≤ i.toInt) (h1 : i.toInt < 64) (j : Nat) (hj : j < 64) : own_bl ((1 : Int64) <<< (i.toInt64 &&& 63)) j = decide (j = ix i) := by
  obtain ⟨e, _, hn⟩ := own_sh64 i h0 h1
  have e2 : (BitVec.ofNat 64 (ix i)).toNat = ix i := by simp; omega
  have e1 : (1 : Int64).toBitVec = 1#64 := by decide
  unfold own_bl
  rw [Int64.toBitVec_shiftLeft, e, BitVec.shiftLeft_eq', e2, BitVec.getLsbD_shiftLeft, e1, BitVec.getLsbD_one]
  by_cases q : j = ix i
  · subst q; simp [hj]
  · by_cases l : j < ix i
    · simp [l, q]
    · have : ¬ (j - ix i = 0) := by omega
      simp [q, this]
theorem own_bl_or (x y : Int64) (j : Nat) : own_bl (x ||| y) j = (own_bl x j || own_bl y j) := by simp [own_bl]
theorem own_bl_and (x y : Int64) (j : Nat) : own_bl (x &&& y) j = (own_bl x j && own_bl y j) := by simp [own_bl]
theorem own_bl_neg (x : Int64) (j : Nat) (hj : j < 64) : own_bl (x ^^^ (-1)) j = !own_bl x j := by
  have e : (-1 : Int64).toBitVec = BitVec.allOnes 64 := by decide
  simp [own_bl, e, hj]
theorem own_bl_0 (j : Nat) : own_bl 0 j = false := by simp [own_bl]

theorem own_bl_shl (x : Int64) (q : Int32) (h0 : 0 ≤ q.toInt) (h1 : q.toInt < 64) (j : Nat) (hj : j < 64) : own_bl (x <<< (q.toInt64 &&& 63)) j = (decide (ix q ≤ j) && own_bl x (j - ix q)) := by
  obtain ⟨e, _, hn⟩ := own_sh64 q h0 h1
  have e2 : (BitVec.ofNat 64 (ix q)).toNat = ix q := by simp; omega
  unfold own_bl
  rw [Int64.toBitVec_shiftLeft, e, BitVec.shiftLeft_eq', e2, BitVec.getLsbD_shiftLeft]
  by_cases l : j < ix q
  · have : ¬ ix q ≤ j := by omega
    simp [l, this]
  · have : ix q ≤ j := by omega
    simp [l, this, hj]
/-- a 3 bit field -/
def own_t (x : Int64) (q : Int32) : Int64 := Jvm.Free.XT.ushrL x q &&& 7
theorem own_t_bit (x : Int64) (q : Int32) (h0 : 0 ≤ q.toInt) (h1 : q.toInt < 64) (j : Nat) (hj : j < 64) : own_bl (own_t x q) j = (own_bl x (ix q + j) && decide (j < 3)) := by
  have f : (7 : Int64).toBitVec = 7#64 := by decide
  have b : ∀ j : Fin 64, (7#64).getLsbD j.val = decide (j.val < 3) := by decide
  have c := b ⟨j, hj⟩
  simp only at c
  unfold own_t
  rw [own_bl_and, own_bl_ushr x q h0 h1]
  unfold own_bl
  rw [f, c]
theorem own_t_set {x d : Int64} {q : Int32} (h0 : 0 ≤ q.toInt) (h1 : q.toInt ≤ 45) (hd : ∀ j, 3 ≤ j → own_bl d j = false) (hz : own_t x q = 0) : own_t (x ||| (d <<< (q.toInt64 &&& 63))) q = d := by
  have xq := ix_int h0
  apply own_bl_ext
  intro j hj
  rw [own_t_bit _ q h0 (by omega) j hj, own_bl_or]
  by_cases l : j < 3
  · rw [own_bl_shl d q h0 (by omega) _ (by omega)]
    have z := congrArg (fun y => own_bl y j) hz
    simp only [own_t_bit x q h0 (show q.toInt < 64 by omega) j hj, own_bl_0] at z
    have z' : own_bl x (ix q + j) = false := by simpa [l] using z
    rw [z']
    have : ix q ≤ ix q + j := by omega
    simp [l, this]
  · rw [hd j (by omega)]; simp [l]
theorem own_t_oth {x d : Int64} {q p : Int32} (h0 : 0 ≤ q.toInt) (h1 : q.toInt ≤ 45) (p0 : 0 ≤ p.toInt) (p1 : p.toInt ≤ 45) (hd : ∀ j, 3 ≤ j → own_bl d j = false) (far : p.toInt + 3 ≤ q.toInt ∨ q.toInt + 3 ≤ p.toInt) : own_t (x ||| (d <<< (q.toInt64 &&& 63))) p = own_t x p := by
  have xq := ix_int h0
  have xp := ix_int p0
  apply own_bl_ext
  intro j hj
  rw [own_t_bit _ p p0 (by omega) j hj, own_t_bit _ p p0 (by omega) j hj, own_bl_or]
  by_cases l : j < 3
  · rw [own_bl_shl d q h0 (by omega) _ (by omega)]
    by_cases w : ix q ≤ ix p + j
    · rw [hd _ (by omega)]; simp
    · simp [w]
  · simp [l]
theorem own_bl_s8 (v : Int32) (h0 : 0 ≤ v.toInt) (h1 : v.toInt < 8) (j : Nat) (hj : 3 ≤ j) : own_bl (Int32.toInt64 v) j = false := by
  have k := ix_int h0
  have hn : ix v < 8 := by omega
  have key : ∀ n : Fin 8, (Int32.ofNat n.val).toInt64.toBitVec = BitVec.ofNat 64 n.val := by decide
  have := key ⟨ix v, hn⟩
  rw [← own_i32 v h0] at this
  unfold own_bl
  rw [this]
  simp only [BitVec.getLsbD_ofNat]
  have : (ix v).testBit j = false := Nat.testBit_lt_two_pow (Nat.lt_of_lt_of_le hn (by
    have : 2 ^ 3 ≤ 2 ^ j := Nat.pow_le_pow_right (by decide) hj
    omega))
  simp [this]

/-! nibbles of an int, bytes of a long -/
theorem own_bt_sarj (x i : Int32) (h0 : 0 ≤ i.toInt) (j : Nat) (h1 : ix i + j < 32) : own_bt (x >>> (i &&& 31)) j = own_bt x (ix i + j) := by
  have xi := ix_int h0
  obtain ⟨e, hn⟩ := own_sh31 i h0 (by omega)
  unfold own_bt
  rw [Int32.toBitVec_shiftRight, e, BitVec.sshiftRight_eq', BitVec.getLsbD_sshiftRight]
  have e2 : (BitVec.ofNat 32 (ix i)).toNat = ix i := by simp; omega
  have j32 : ¬ 32 ≤ j := by omega
  rw [e2]; simp [h1, j32]
theorem own_bt_shlx (x i : Int32) (h0 : 0 ≤ i.toInt) (h1 : i.toInt < 32) (j : Nat) (hj : j < 32) : own_bt (x <<< (i &&& 31)) j = (decide (ix i ≤ j) && own_bt x (j - ix i)) := by
  obtain ⟨e, hn⟩ := own_sh31 i h0 h1
  unfold own_bt
  have e2 : (BitVec.ofNat 32 (ix i)).toNat = ix i := by simp; omega
  rw [Int32.toBitVec_shiftLeft, e, BitVec.shiftLeft_eq', e2, BitVec.getLsbD_shiftLeft]
  by_cases l : j < ix i
  · have : ¬ ix i ≤ j := by omega
    simp [l, this]
  · have : ix i ≤ j := by omega
    simp [l, this, hj]
/-- a 3 bit field -/
theorem own_bt_ushr (x i : Int32) (h0 : 0 ≤ i.toInt) (h1 : i.toInt < 32) (j : Nat) : own_bt (Jvm.Free.XT.ushr x i) j = own_bt x (ix i + j) := by
  have k := ix_int h0
  have key : ∀ n : Fin 32, ((Int32.ofNat n.val &&& 31).toUInt32).toBitVec % 32 = BitVec.ofNat 32 n.val := by decide
  have e := key ⟨ix i, by omega⟩
  rw [← own_i32 i h0] at e
  simp only at e
  have e2 : (BitVec.ofNat 32 (ix i)).toNat = ix i := by simp; omega
  unfold own_bt Jvm.Free.XT.ushr
  have g : ((x.toUInt32 >>> (i &&& 31).toUInt32).toInt32).toBitVec = x.toBitVec >>> (ix i) := by
    show (x.toUInt32 >>> (i &&& 31).toUInt32).toBitVec = _
    rw [UInt32.toBitVec_shiftRight, e, BitVec.ushiftRight_eq', e2]
    rfl
  rw [g, BitVec.getLsbD_ushiftRight]
theorem own_bt_orr (x y : Int32) (j : Nat) : own_bt (x ||| y) j = (own_bt x j || own_bt y j) := by simp [own_bt]
theorem own_bt_t32 (y : Int64) (j : Nat) (hj : j < 32) : own_bt (Int64.toInt32 y) j = own_bl y j := by
  unfold own_bt own_bl
  rw [Int64.toBitVec_toInt32, BitVec.getLsbD_signExtend]
  have : j < 64 := by omega
  simp [hj, this]
theorem own_bt_hi (x : Int32) (j : Nat) (h : 32 ≤ j) : own_bt x j = false := by
  unfold own_bt; exact BitVec.getLsbD_of_ge _ _ h
theorem own_bl_i64 (v : Int32) (h0 : 0 ≤ v.toInt) (j : Nat) : own_bl (Int32.toInt64 v) j = own_bt v j := by
  have m : v.toBitVec.msb = false := by
    have : ¬ v.toBitVec.msb = true := fun q => by
      have := BitVec.toInt_neg_of_msb_true q
      have e : v.toBitVec.toInt = v.toInt := rfl
      omega
    simpa using this
  unfold own_bl own_bt
  rw [Int32.toBitVec_toInt64, BitVec.getLsbD_signExtend, m]
  by_cases l : j < 32
  · have : j < 64 := by omega
    simp [l, this]
  · rw [BitVec.getLsbD_of_ge _ _ (by omega)]
    simp [l]
theorem own_ix4 {n : Nat} (h : n < 8) : 0 ≤ (Int32.ofNat n * 4).toInt ∧ (Int32.ofNat n * 4).toInt < 32 ∧ ix (Int32.ofNat n * 4) = 4 * n := by
  have key : ∀ n : Fin 8, 0 ≤ (Int32.ofNat n.val * 4).toInt ∧ (Int32.ofNat n.val * 4).toInt < 32 ∧ ix (Int32.ofNat n.val * 4) = 4 * n.val := by decide
  exact key ⟨n, h⟩
theorem own_ix8 {n : Nat} (h : n < 8) : 0 ≤ (Int32.ofNat n * 8).toInt ∧ (Int32.ofNat n * 8).toInt < 64 ∧ ix (Int32.ofNat n * 8) = 8 * n := by
  have key : ∀ n : Fin 8, 0 ≤ (Int32.ofNat n.val * 8).toInt ∧ (Int32.ofNat n.val * 8).toInt < 64 ∧ ix (Int32.ofNat n.val * 8) = 8 * n.val := by decide
  exact key ⟨n, h⟩
/-- nibbles -/
def own_ni (x : Int32) (n : Nat) : Int32 := Jvm.Free.XT.ushr x (Int32.ofNat n * 4) &&& 15
theorem own_niI (x k : Int32) (h0 : 0 ≤ k.toInt) : Jvm.Free.XT.ushr x (k * 4) &&& 15 = own_ni x (ix k) := by unfold own_ni; rw [← own_i32 k h0]
theorem own_ni_bit (x : Int32) {n : Nat} (hn : n < 8) (j : Nat) (hj : j < 32) : own_bt (own_ni x n) j = (own_bt x (4 * n + j) && decide (j < 4)) := by
  obtain ⟨a, b, c⟩ := own_ix4 hn
  unfold own_ni
  rw [own_bt_and, own_bt_ushr _ _ a b, c, own_bt_15 j hj]
theorem own_ni_hi (x : Int32) {n : Nat} (hn : n < 8) (j : Nat) (h4 : 4 ≤ j) : own_bt (own_ni x n) j = false := by
  by_cases l : j < 32
  · rw [own_ni_bit x hn j l]
    have : ¬ j < 4 := by omega
    simp [this]
  · exact own_bt_hi _ _ (by omega)
theorem own_15s {k : Nat} (hk : k < 8) (i : Nat) (hi : i < 32) : own_bt ((15 : Int32) <<< ((Int32.ofNat k * 4) &&& 31)) i = decide (4 * k ≤ i ∧ i < 4 * k + 4) := by
  obtain ⟨a, b, c⟩ := own_ix4 hk
  rw [own_bt_shlx _ _ a b i hi, c]
  by_cases l : 4 * k ≤ i
  · rw [own_bt_15 _ (by omega)]
    by_cases l2 : i - 4 * k < 4
    · have : i < 4 * k + 4 := by omega
      simp [l, l2, this]
    · have : ¬ i < 4 * k + 4 := by omega
      simp [l, l2, this]
  · simp [l]
theorem own_ni_clr (x : Int32) {k n : Nat} (hk : k < 8) (hn : n < 8) : own_ni (x &&& (((15 : Int32) <<< ((Int32.ofNat k * 4) &&& 31)) ^^^ (-1))) n = if n = k then 0 else own_ni x n := by
  apply own_bt_ext
  intro j hj
  rw [own_ni_bit _ hn j hj]
  by_cases l : j < 4
  · rw [own_bt_and, own_bt_neg _ _ (by omega), own_15s hk _ (by omega)]
    by_cases e : n = k
    · subst e
      rw [if_pos rfl, own_bt_0]
      simp [l]
    · rw [if_neg e, own_ni_bit _ hn j hj]
      have : ¬ (4 * k ≤ 4 * n + j ∧ 4 * n + j < 4 * k + 4) := by omega
      simp [this]
  · by_cases e : n = k
    · rw [if_pos e, own_bt_0]; simp [l]
    · rw [if_neg e, own_ni_bit _ hn j hj]; simp [l]
theorem own_ni_or (x v : Int32) {k n : Nat} (hk : k < 8) (hn : n < 8) (hv : ∀ j, 4 ≤ j → own_bt v j = false) : own_ni (x ||| (v <<< ((Int32.ofNat k * 4) &&& 31))) n = if n = k then own_ni x n ||| v else own_ni x n := by
  obtain ⟨a, b, c⟩ := own_ix4 hk
  apply own_bt_ext
  intro j hj
  rw [own_ni_bit _ hn j hj]
  by_cases l : j < 4
  · rw [own_bt_orr, own_bt_shlx _ _ a b _ (by omega), c]
    by_cases e : n = k
    · subst e
      rw [if_pos rfl, own_bt_orr, own_ni_bit _ hn j hj]
      simp [l]
    · rw [if_neg e, own_ni_bit _ hn j hj]
      by_cases w : 4 * k ≤ 4 * n + j
      · rw [hv _ (by omega)]; simp [l]
      · simp [w]
  · by_cases e : n = k
    · rw [if_pos e, own_bt_orr (own_ni x n) v, own_ni_bit _ hn j hj, hv j (by omega)]; simp [l]
    · rw [if_neg e, own_ni_bit _ hn j hj]; simp [l]
theorem own_or00 (v : Int32) : (0 : Int32) ||| v = v := by
  apply own_bt_ext
  intro j hj
  rw [own_bt_orr, own_bt_0]; rfl
theorem own_ni_set (x v : Int32) {k n : Nat} (hk : k < 8) (hn : n < 8) (hv : ∀ j, 4 ≤ j → own_bt v j = false) : own_ni ((x &&& (((15 : Int32) <<< ((Int32.ofNat k * 4) &&& 31)) ^^^ (-1))) ||| (v <<< ((Int32.ofNat k * 4) &&& 31))) n = if n = k then v else own_ni x n := by
  rw [own_ni_or _ _ hk hn hv, own_ni_clr _ hk hn]
  by_cases e : n = k
  · rw [if_pos e, if_pos e, if_pos e, own_or00]
  · rw [if_neg e, if_neg e, if_neg e]
/-- bytes -/
def own_by (x : Int64) (n : Nat) : Int32 := Int64.toInt32 (Jvm.Free.XT.ushrL x (Int32.ofNat n * 8) &&& 255)
theorem own_byI (x : Int64) (k : Int32) (h0 : 0 ≤ k.toInt) : Int64.toInt32 (Jvm.Free.XT.ushrL x (k * 8) &&& 255) = own_by x (ix k) := by unfold own_by; rw [← own_i32 k h0]
theorem own_bl_255 (j : Nat) (hj : j < 64) : own_bl 255 j = decide (j < 8) := by
  have k : ∀ j : Fin 64, own_bl 255 j.val = decide (j.val < 8) := by decide
  exact k ⟨j, hj⟩
theorem own_by_bit (x : Int64) {n : Nat} (hn : n < 8) (j : Nat) (hj : j < 32) : own_bt (own_by x n) j = (own_bl x (8 * n + j) && decide (j < 8)) := by
  obtain ⟨a, b, c⟩ := own_ix8 hn
  unfold own_by
  rw [own_bt_t32 _ _ hj, own_bl_and, own_bl_ushr _ _ a b, c, own_bl_255 j (by omega)]
theorem own_255s {k : Nat} (hk : k < 8) (i : Nat) (hi : i < 64) : own_bl ((255 : Int64) <<< ((Int32.ofNat k * 8).toInt64 &&& 63)) i = decide (8 * k ≤ i ∧ i < 8 * k + 8) := by
  obtain ⟨a, b, c⟩ := own_ix8 hk
  rw [own_bl_shl _ _ a b i hi, c]
  by_cases l : 8 * k ≤ i
  · rw [own_bl_255 _ (by omega)]
    by_cases l2 : i - 8 * k < 8
    · have : i < 8 * k + 8 := by omega
      simp [l, l2, this]
    · have : ¬ i < 8 * k + 8 := by omega
      simp [l, l2, this]
  · simp [l]
theorem own_by_clr (x : Int64) {k n : Nat} (hk : k < 8) (hn : n < 8) : own_by (x &&& (((255 : Int64) <<< ((Int32.ofNat k * 8).toInt64 &&& 63)) ^^^ (-1))) n = if n = k then 0 else own_by x n := by
  apply own_bt_ext
  intro j hj
  rw [own_by_bit _ hn j hj]
  by_cases l : j < 8
  · rw [own_bl_and, own_bl_neg _ _ (by omega), own_255s hk _ (by omega)]
    by_cases e : n = k
    · subst e
      rw [if_pos rfl, own_bt_0]
      simp [l]
    · rw [if_neg e, own_by_bit _ hn j hj]
      have : ¬ (8 * k ≤ 8 * n + j ∧ 8 * n + j < 8 * k + 8) := by omega
      simp [this]
  · by_cases e : n = k
    · rw [if_pos e, own_bt_0]; simp [l]
    · rw [if_neg e, own_by_bit _ hn j hj]; simp [l]
/-- a byte is laid over: the place may be any int that stands for 8 k -/
theorem own_by_or (x y : Int64) (q : Int32) {k n : Nat} (hk : k < 8) (hn : n < 8) (q0 : 0 ≤ q.toInt) (qk : q.toInt = 8 * k) (v : Int32) (hy : ∀ j, own_bl y j = own_bt v j) (hv : ∀ j, 8 ≤ j → own_bt v j = false) : own_by (x ||| (y <<< (q.toInt64 &&& 63))) n = if n = k then own_by x n ||| v else own_by x n := by
  have c := ix_int q0
  apply own_bt_ext
  intro j hj
  rw [own_by_bit _ hn j hj]
  by_cases l : j < 8
  · rw [own_bl_or, own_bl_shl _ _ q0 (by omega) _ (by omega), hy]
    by_cases e : n = k
    · subst e
      rw [if_pos rfl, own_bt_orr, own_by_bit _ hn j hj]
      have e1 : ix q = 8 * n := by omega
      rw [e1]
      simp [l]
    · rw [if_neg e, own_by_bit _ hn j hj]
      by_cases w : ix q ≤ 8 * n + j
      · rw [hv _ (by omega)]; simp [l]
      · simp [w]
  · by_cases e : n = k
    · rw [if_pos e, own_bt_orr, own_by_bit _ hn j hj, hv j (by omega)]; simp [l]
    · rw [if_neg e, own_by_bit _ hn j hj]; simp [l]
theorem own_vhi {v : Int32} (h : 0 ≤ v.toInt ∧ v.toInt < 256) (j : Nat) (hj : 8 ≤ j) : own_bt v j = false := by
  by_cases l : j < 32
  · have m := Jvm.Kit.i32_mask v 255 (k := 8) (by decide) (by decide)
    have p : ((2 : Int) ^ 8) = 256 := by decide
    have e : v &&& 255 = v := (i32_eq).mpr (by rw [m, p]; omega)
    have k : ∀ j : Fin 32, own_bt 255 j.val = decide (j.val < 8) := by decide
    have b := own_bt_and v 255 j
    rw [e, k ⟨j, l⟩] at b
    have : ¬ j < 8 := by omega
    rw [b]; simp [this]
  · exact own_bt_hi _ _ (by omega)
theorem own_by_set (x : Int64) (v : Int32) (h : 0 ≤ v.toInt ∧ v.toInt < 256) {k n : Nat} (hk : k < 8) (hn : n < 8) : own_by ((x &&& (((255 : Int64) <<< ((Int32.ofNat k * 8).toInt64 &&& 63)) ^^^ (-1))) ||| ((Int32.toInt64 v) <<< ((Int32.ofNat k * 8).toInt64 &&& 63))) n = if n = k then v else own_by x n := by
  obtain ⟨a, b, c⟩ := own_ix8 hk
  have ci := ix_int a
  rw [own_by_or _ _ _ hk hn a (by omega) v (own_bl_i64 v h.1) (own_vhi h), own_by_clr _ hk hn]
  by_cases e : n = k
  · rw [if_pos e, if_pos e, if_pos e, own_or00]
  · rw [if_neg e, if_neg e, if_neg e]
theorem own_by_64 (x : Int64) {k n : Nat} (hk : k < 8) (hn : n < 8) : own_by (x ||| ((64 : Int64) <<< ((Int32.ofNat k * 8).toInt64 &&& 63))) n = if n = k then own_by x n ||| 64 else own_by x n := by
  obtain ⟨a, b, c⟩ := own_ix8 hk
  have ci := ix_int a
  have y : ∀ j, own_bl 64 j = own_bt 64 j := fun j => own_bl_i64 64 (by decide) j
  exact own_by_or _ _ _ hk hn a (by omega) 64 y (own_vhi (by decide))
/-- half a long -/
theorem own_bl_ff (j : Nat) (hj : j < 64) : own_bl 4294967295 j = decide (j < 32) := by
  have k : ∀ j : Fin 64, own_bl 4294967295 j.val = decide (j.val < 32) := by decide
  exact k ⟨j, hj⟩
theorem own_ffs (q : Int32) {p : Nat} (hp : p < 2) (q0 : 0 ≤ q.toInt) (qp : q.toInt = 32 * p) (i : Nat) (hi : i < 64) : own_bl ((4294967295 : Int64) <<< (q.toInt64 &&& 63)) i = decide (i / 32 = p) := by
  have c := ix_int q0
  rw [own_bl_shl _ _ q0 (by omega) i hi]
  by_cases l : ix q ≤ i
  · rw [own_bl_ff _ (by omega)]
    by_cases l2 : i - ix q < 32
    · have : i / 32 = p := by omega
      simp [l, l2, this]
    · have : ¬ i / 32 = p := by omega
      simp [l, l2, this]
  · have : ¬ i / 32 = p := by omega
    simp [l, this]
theorem own_by_cl4 (x : Int64) (q : Int32) {p n : Nat} (hp : p < 2) (hn : n < 8) (q0 : 0 ≤ q.toInt) (qp : q.toInt = 32 * p) : own_by (x &&& (((4294967295 : Int64) <<< (q.toInt64 &&& 63)) ^^^ (-1))) n = if n / 4 = p then 0 else own_by x n := by
  apply own_bt_ext
  intro j hj
  rw [own_by_bit _ hn j hj]
  by_cases l : j < 8
  · rw [own_bl_and, own_bl_neg _ _ (by omega), own_ffs q hp q0 qp _ (by omega)]
    by_cases e : n / 4 = p
    · rw [if_pos e, own_bt_0]
      have : (8 * n + j) / 32 = p := by omega
      simp [this]
    · rw [if_neg e, own_by_bit _ hn j hj]
      have : ¬ (8 * n + j) / 32 = p := by omega
      simp [this]
  · by_cases e : n / 4 = p
    · rw [if_pos e, own_bt_0]; simp [l]
    · rw [if_neg e, own_by_bit _ hn j hj]; simp [l]
theorem own_by_0 (x : Int64) (q : Int32) {p : Nat} (hp : p < 2) (q0 : 0 ≤ q.toInt) (qp : q.toInt = 32 * p) : Int64.toInt32 ((Jvm.Free.XT.ushrL x q &&& 4294967295) &&& 255) = own_by x (4 * p) := by
  have c := ix_int q0
  apply own_bt_ext
  intro j hj
  rw [own_by_bit _ (by omega) j hj, own_bt_t32 _ _ hj, own_bl_and, own_bl_and, own_bl_ushr _ _ q0 (by omega), own_bl_255 j (by omega), own_bl_ff j (by omega)]
  have e : ix q + j = 8 * (4 * p) + j := by omega
  rw [e]
  simp [hj]
theorem own_by_sh (x : Int64) (q : Int32) {p n : Nat} (hp : p < 2) (hn : n < 8) (q0 : 0 ≤ q.toInt) (qp : q.toInt = 32 * p) : own_by ((x &&& (((4294967295 : Int64) <<< (q.toInt64 &&& 63)) ^^^ (-1))) ||| ((Jvm.Free.XT.ushrL (Jvm.Free.XT.ushrL x q &&& 4294967295) 8) <<< (q.toInt64 &&& 63))) n = if n / 4 = p then (if n % 4 = 3 then 0 else own_by x (n + 1)) else own_by x n := by
  have c := ix_int q0
  have i8 : ix (8 : Int32) = 8 := rfl
  apply own_bt_ext
  intro j hj
  rw [own_by_bit _ hn j hj]
  by_cases l : j < 8
  · rw [own_bl_or, own_bl_and, own_bl_neg _ _ (by omega), own_ffs q hp q0 qp _ (by omega), own_bl_shl _ _ q0 (by omega) _ (by omega), own_bl_ushr _ _ (by decide) (by decide), i8, own_bl_and, own_bl_ushr _ _ q0 (by omega)]
    by_cases e : n / 4 = p
    · rw [if_pos e]
      have e1 : (8 * n + j) / 32 = p := by omega
      have e2 : ix q ≤ 8 * n + j := by omega
      by_cases e3 : n % 4 = 3
      · rw [if_pos e3, own_bt_0]
        by_cases w : 8 + (8 * n + j - ix q) < 64
        · rw [own_bl_ff _ w]
          have : ¬ 8 + (8 * n + j - ix q) < 32 := by omega
          simp [this, e1]
        · rw [own_bl_hi 4294967295 _ (by omega)]
          simp [e1]
      · rw [if_neg e3, own_by_bit _ (by omega) j hj, own_bl_ff _ (by omega)]
        have e4 : 8 + (8 * n + j - ix q) < 32 := by omega
        have e5 : ix q + (8 + (8 * n + j - ix q)) = 8 * (n + 1) + j := by omega
        rw [e5]
        simp [e1, e2, e4, l]
    · rw [if_neg e, own_by_bit _ hn j hj]
      have e1 : ¬ (8 * n + j) / 32 = p := by omega
      by_cases e2 : ix q ≤ 8 * n + j
      · by_cases w : 8 + (8 * n + j - ix q) < 64
        · rw [own_bl_ff _ w]
          have : ¬ 8 + (8 * n + j - ix q) < 32 := by omega
          simp [this, e1]
        · rw [own_bl_hi 4294967295 _ (by omega)]
          simp [e1]
      · simp [e1, e2]
  · by_cases e : n / 4 = p
    · rw [if_pos e]
      by_cases e3 : n % 4 = 3
      · rw [if_pos e3, own_bt_0]; simp [l]
      · rw [if_neg e3, own_by_bit _ (by omega) j hj]; simp [l]
    · rw [if_neg e, own_by_bit _ hn j hj]; simp [l]

/-- a 6 bit field -/
def own_z (x : Int64) (q : Int32) : Int64 := Jvm.Free.XT.ushrL x q &&& 63
theorem own_z_bit (x : Int64) (q : Int32) (h0 : 0 ≤ q.toInt) (h1 : q.toInt < 64) (j : Nat) (hj : j < 64) : own_bl (own_z x q) j = (own_bl x (ix q + j) && decide (j < 6)) := by
  have f : (63 : Int64).toBitVec = 63#64 := by decide
  have b : ∀ j : Fin 64, (63#64).getLsbD j.val = decide (j.val < 6) := by decide
  have c := b ⟨j, hj⟩
  simp only at c
  unfold own_z
  rw [own_bl_and, own_bl_ushr x q h0 h1]
  unfold own_bl
  rw [f, c]
theorem own_z_set {x d : Int64} {q : Int32} (h0 : 0 ≤ q.toInt) (h1 : q.toInt ≤ 45) (hd : ∀ j, 6 ≤ j → own_bl d j = false) (hz : own_z x q = 0) : own_z (x ||| (d <<< (q.toInt64 &&& 63))) q = d := by
  have xq := ix_int h0
  apply own_bl_ext
  intro j hj
  rw [own_z_bit _ q h0 (by omega) j hj, own_bl_or]
  by_cases l : j < 6
  · rw [own_bl_shl d q h0 (by omega) _ (by omega)]
    have z := congrArg (fun y => own_bl y j) hz
    simp only [own_z_bit x q h0 (show q.toInt < 64 by omega) j hj, own_bl_0] at z
    have z' : own_bl x (ix q + j) = false := by simpa [l] using z
    rw [z']
    have : ix q ≤ ix q + j := by omega
    simp [l, this]
  · rw [hd j (by omega)]; simp [l]
theorem own_z_oth {x d : Int64} {q p : Int32} (h0 : 0 ≤ q.toInt) (h1 : q.toInt ≤ 45) (p0 : 0 ≤ p.toInt) (p1 : p.toInt ≤ 45) (hd : ∀ j, 6 ≤ j → own_bl d j = false) (far : p.toInt + 6 ≤ q.toInt ∨ q.toInt + 6 ≤ p.toInt) : own_z (x ||| (d <<< (q.toInt64 &&& 63))) p = own_z x p := by
  have xq := ix_int h0
  have xp := ix_int p0
  apply own_bl_ext
  intro j hj
  rw [own_z_bit _ p p0 (by omega) j hj, own_z_bit _ p p0 (by omega) j hj, own_bl_or]
  by_cases l : j < 6
  · rw [own_bl_shl d q h0 (by omega) _ (by omega)]
    by_cases w : ix q ≤ ix p + j
    · rw [hd _ (by omega)]; simp
    · simp [w]
  · simp [l]

theorem own_clamp (x lo hi : Int32) (s : St) (Q : Int32 → St → Prop) (h : Q (if x < lo then lo else if hi < x then hi else x) s) : calI PP 20 11 [.ref 0, .int x, .int lo, .int hi] s Q := by
  apply c20_in
  refine ⟨fun a => ?_, fun a => ⟨fun b => ?_, fun b => ?_⟩⟩
  · rw [if_pos a] at h; exact h
  · rw [if_neg a, if_pos b] at h; exact h
  · rw [if_neg a, if_neg b] at h; exact h
theorem own_cl_rng {x lo hi m : Int32} (h : lo.toInt ≤ hi.toInt) (e : m = if x < lo then lo else if hi < x then hi else x) : lo.toInt ≤ m.toInt ∧ m.toInt ≤ hi.toInt := by
  subst e
  split
  · omega
  · split
    · omega
    · simp only [i32_lt] at *; omega
/-- the state that the constructor makes -/
def own_K (f R : Int32) (s : St) : Prop := (gI s 0 19 = f ∧ gI s 0 20 = R ∧ gI s 0 21 = 7 - f ∧ gI s 0 22 = 0) ∧ (∀ j, gI s 1 j = 0) ∧ (∀ j, j < 7 → gI s 2 j = -1) ∧ (∀ j, j < 7 → gI s 3 j = -1) ∧ (∀ j, gI s 4 j = 0) ∧ (∀ j, gI s 5 j = 0) ∧ (∀ j, j < 7 → gI s 6 j = -1) ∧ (∀ j, gI s 7 j = 0) ∧ (∀ j, gL s 8 j = 0) ∧ (∀ j, gI s 9 j = 0) ∧ (∀ j, j < 112 → gI s 10 j = -1) ∧ (∀ j, gI s 11 j = 0)
theorem own_21 (s : St) (p : Int32) (Q : Int32 → St → Prop) (h0 : 0 ≤ p.toInt → p.toInt < 7 → Q 1 s) (h1 : ¬ (0 ≤ p.toInt ∧ p.toInt < 7) → Q 0 s) : calI PP 21 11 [.ref 0, .int p] s Q := by
  apply c21_in
  simp only [i32_lt]
  have e7 : (7 : Int32).toInt = 7 := by decide
  have e0 : (0 : Int32).toInt = 0 := by decide
  rw [e7, e0]
  exact ⟨fun a => h1 (by omega), fun a => ⟨fun b => h0 (by omega) b, fun b => h1 (by omega)⟩⟩
theorem own_fill {s : St} {c : Nat} {i v : Int32} (h0 : 0 ≤ i.toInt) (e : (i + 1).toInt = i.toInt + 1) (h : ∀ j, j < ix i → gI s c j = v) : ∀ j, j < ix (i + 1) → gI (sI s c (ix i) v) c j = v := by
  intro j hj
  have a := ix_int h0
  have b := ix_int (i := i + 1) (by omega)
  rw [gI_sI]
  by_cases q : j = ix i
  · rw [if_pos ⟨rfl, q⟩]
  · rw [if_neg (by omega)]; exact h j (by omega)
theorem own_ctor (i0 i1 : Int32) (Q : St → Prop) (h : ∀ f R s, f = (if i0 < 0 then 0 else if 3 < i0 then 3 else i0) → R = (if i1 < 1 then 1 else if 8 < i1 then 8 else i1) → own_K f R s → Q s) : calV PP 0 0 [.ref 0, .int i0, .int i1] s0 Q := by
  apply c0_in
  apply own_clamp
  apply own_clamp
  generalize ef : (if i0 < 0 then (0 : Int32) else if 3 < i0 then 3 else i0) = f at *
  generalize eR : (if i1 < 1 then (1 : Int32) else if 8 < i1 then 8 else i1) = R at *
  apply c17_in
  refine loop_up (F := fun i => ∀ s, (gI s 0 19 = f ∧ gI s 0 20 = R ∧ gI s 0 21 = 7 - f ∧ gI s 0 22 = 0) → (∀ j, gI s 1 j = 0) → (∀ j, j < ix i → gI s 2 j = -1) → (∀ j, j < ix i → gI s 3 j = -1) → (∀ j, gI s 4 j = 0) → (∀ j, gI s 5 j = 0) → (∀ j, j < ix i → gI s 6 j = -1) → (∀ j, gI s 7 j = 0) → (∀ j, gL s 8 j = 0) → (∀ j, gI s 9 j = 0) → (∀ j, gI s 11 j = 0) → wpcV PP 17 cm17 11 2 [some (.ref 0), some (.int i)] [] s _) 7 (by decide) (fun i h0 h1 e ih s k0 k1 k2 k3 k4 k5 k6 k7 k8 k9 k11 => ?_) (fun i hi s k0 k1 k2 k3 k4 k5 k6 k7 k8 k9 k11 => ?_) 0 (by decide) (by decide) _ ⟨rfl, rfl, rfl, rfl⟩ (fun _ => rfl) (fun _ q => absurd q (by simp [ix])) (fun _ q => absurd q (by simp [ix])) (fun _ => rfl) (fun _ => rfl) (fun _ q => absurd q (by simp [ix])) (fun _ => rfl) (fun _ => rfl) (fun _ => rfl) (fun _ => rfl)
  · refine c17_2 _ _ _ ⟨fun _ => c18_in _ _ _ (own_21 _ _ _ (fun _ _ => ⟨fun q => absurd q (by decide), fun _ => ?_⟩) (fun q => absurd ⟨h0, h1⟩ q)), fun q => absurd (by rw [i32_lt]; exact h1) q⟩
    have b : inb 7 i := ⟨h0, h1⟩
    refine ⟨b, b, b, b, b, b, b, b, b, ?_⟩
    have f2 := own_fill h0 e k2
    have f3 := own_fill h0 e k3
    have f6 := own_fill h0 e k6
    refine ih _ ?_ ?_ ?_ ?_ ?_ ?_ ?_ ?_ ?_ ?_ ?_
    · simpa [gI_sI, gI_sL] using k0
    · intro j; simp [gI_sI, gI_sL, k1]
    · intro j hj; have := f2 j hj; simpa [gI_sI, gI_sL] using this
    · intro j hj; have := f3 j hj; simpa [gI_sI, gI_sL] using this
    · intro j; simp [gI_sI, gI_sL, k4]
    · intro j; simp [gI_sI, gI_sL, k5]
    · intro j hj; have := f6 j hj; simpa [gI_sI, gI_sL] using this
    · intro j; simp [gI_sI, gI_sL, k7]
    · intro j; simp [gL_sI, gL_sL, k8]
    · intro j; simp [gI_sI, gI_sL, k9]
    · intro j; simp [gI_sI, gI_sL, k11]
  · refine c17_2 _ _ _ ⟨fun q => absurd q (by rw [i32_lt, hi]; decide), fun _ => ?_⟩
    have i7 : ix i = 7 := by have := ix_int (i := i) (by omega); omega
    rw [i7] at k2 k3 k6
    apply c19_in
    refine loop_up (F := fun i => ∀ s, (gI s 0 19 = f ∧ gI s 0 20 = R ∧ gI s 0 21 = 7 - f ∧ gI s 0 22 = 0) → (∀ j, gI s 1 j = 0) → (∀ j, j < 7 → gI s 2 j = -1) → (∀ j, j < 7 → gI s 3 j = -1) → (∀ j, gI s 4 j = 0) → (∀ j, gI s 5 j = 0) → (∀ j, j < 7 → gI s 6 j = -1) → (∀ j, gI s 7 j = 0) → (∀ j, gL s 8 j = 0) → (∀ j, gI s 9 j = 0) → (∀ j, gI s 11 j = 0) → (∀ j, j < ix i → gI s 10 j = -1) → wpcV PP 19 cm19 11 2 [some (.ref 0), some (.int i)] [] s _) 112 (by decide) (fun i h0 h1 e ih s k0 k1 k2 k3 k4 k5 k6 k7 k8 k9 k11 k10 => ?_) (fun i hi s k0 k1 k2 k3 k4 k5 k6 k7 k8 k9 k11 k10 => ?_) 0 (by decide) (by decide) s k0 k1 k2 k3 k4 k5 k6 k7 k8 k9 k11 (fun _ q => absurd q (by simp [ix]))
    · refine c19_2 _ _ _ ⟨fun _ => ⟨⟨h0, h1⟩, ?_⟩, fun q => absurd (by rw [i32_lt]; exact h1) q⟩
      refine ih _ ?_ ?_ ?_ ?_ ?_ ?_ ?_ ?_ ?_ ?_ ?_ (own_fill h0 e k10)
      all_goals simpa [gI_sI, gL_sI]
    · refine c19_2 _ _ _ ⟨fun q => absurd q (by rw [i32_lt, hi]; decide), fun _ => ?_⟩
      have i7 : ix i = 112 := by have := ix_int (i := i) (by omega); omega
      rw [i7] at k10
      refine loop_up (F := fun i => ∀ s, own_K f R s → wpcV PP 19 cm19 11 23 [some (.ref 0), some (.int i)] [] s _) 784 (by decide) (fun i h0 h1 e ih s k => ?_) (fun i hi s k => ?_) 0 (by decide) (by decide) s ⟨k0, k1, k2, k3, k4, k5, k6, k7, k8, k9, k10, k11⟩
      · refine c19_23 _ _ _ ⟨fun _ => ⟨⟨h0, h1⟩, ih _ ?_⟩, fun q => absurd (by rw [i32_lt]; exact h1) q⟩
        obtain ⟨k0, k1, k2, k3, k4, k5, k6, k7, k8, k9, k10, k11⟩ := k
        refine ⟨?_, ?_, ?_, ?_, ?_, ?_, ?_, ?_, ?_, ?_, ?_, ?_⟩
        · simpa [gI_sI] using k0
        · simpa [gI_sI] using k1
        · simpa [gI_sI] using k2
        · simpa [gI_sI] using k3
        · simpa [gI_sI] using k4
        · simpa [gI_sI] using k5
        · simpa [gI_sI] using k6
        · simpa [gI_sI] using k7
        · simpa [gL_sI] using k8
        · simpa [gI_sI] using k9
        · simpa [gI_sI] using k10
        · intro j; simp [gI_sI, k11]
      · exact c19_23 _ _ _ ⟨fun q => absurd q (by rw [i32_lt, hi]; decide), fun _ => h f R s rfl rfl k⟩

/-! counting -/
def own_ct (f : Nat → Bool) : Nat → Nat
  | 0 => 0
  | n + 1 => own_ct f n + (if f n then 1 else 0)
theorem own_ct_le {f : Nat → Bool} : ∀ n, own_ct f n ≤ n
  | 0 => Nat.le_refl _
  | n + 1 => by
    show own_ct f n + _ ≤ _
    have := own_ct_le (f := f) n
    split <;> omega
theorem own_ct_mono {f g : Nat → Bool} : ∀ n, (∀ c, c < n → f c = true → g c = true) → own_ct f n ≤ own_ct g n
  | 0, _ => Nat.le_refl _
  | n + 1, h => by
    show own_ct f n + _ ≤ own_ct g n + _
    have ih := own_ct_mono n fun c hc => h c (by omega)
    by_cases a : f n = true
    · rw [if_pos a, if_pos (h n (by omega) a)]; omega
    · rw [if_neg a]; omega
theorem own_ct_dj {f g : Nat → Bool} : ∀ n, (∀ c, c < n → f c = true → g c = true → False) → own_ct f n + own_ct g n ≤ n
  | 0, _ => Nat.le_refl _
  | n + 1, h => by
    show own_ct f n + _ + (own_ct g n + _) ≤ _
    have ih := own_ct_dj n fun c hc => h c (by omega)
    by_cases a : f n = true
    · rw [if_pos a, if_neg (fun b => h n (by omega) a b)]; omega
    · rw [if_neg a]; split <;> omega
theorem own_ct_ex {f : Nat → Bool} : ∀ n, 1 ≤ own_ct f n → ∃ c, c < n ∧ f c = true
  | 0, h => absurd h (by show ¬ 1 ≤ 0; omega)
  | n + 1, h => by
    by_cases a : f n = true
    · exact ⟨n, by omega, a⟩
    · have e : own_ct f (n + 1) = own_ct f n := by
        show own_ct f n + _ = _
        rw [if_neg a]; rfl
      rw [e] at h
      obtain ⟨c, hc, q⟩ := own_ct_ex n h
      exact ⟨c, by omega, q⟩
/-- those held split into those with a value and those without -/
theorem own_ct_sp {f g : Nat → Bool} : ∀ n, own_ct f n = own_ct (fun c => f c && g c) n + own_ct (fun c => f c && !g c) n
  | 0 => rfl
  | n + 1 => by
    have ih := own_ct_sp (f := f) (g := g) n
    show own_ct f n + (if f n then 1 else 0) = own_ct (fun c => f c && g c) n + (if (f n && g n) then 1 else 0) + (own_ct (fun c => f c && !g c) n + (if (f n && !g n) then 1 else 0))
    generalize f n = a
    generalize g n = b
    cases a <;> cases b <;> simp <;> omega
/-! the protocol's tables -/
abbrev own_T (s : St) (p k h : Nat) : Int32 := gI s 10 (16 * p + 2 * k + h)
abbrev own_C (s : St) (a d k h : Nat) : Int32 := gI s 11 (16 * (7 * a + d) + 2 * k + h)
def own_N4 (s : St) : Prop := ∀ p k (v : Int32), p < 7 → k < 8 → (v = 0 ∨ v = 1) → own_T s p k 1 = v → 4 ≤ own_ct (fun x => own_T s x k 0 == v) 7
def own_N5 (s : St) : Prop := ∀ p k (v : Int32), p < 7 → k < 8 → (v = 0 ∨ v = 1) → own_T s p k 1 ≠ -1 → own_T s p k 1 ≠ v → ∃ x, x < 7 ∧ own_T s x k 0 ≠ -1 ∧ own_T s x k 0 ≠ v
def own_N6 (s : St) : Prop := ∀ p k (v : Int32), p < 7 → k < 7 → (v = 0 ∨ v = 1) → own_T s p (k + 1) 0 ≠ -1 → own_T s p (k + 1) 0 ≠ v → (gI s 0 21).toInt ≤ own_ct (fun x => own_T s x k 1 != -1 && own_T s x k 1 != v) 7
def own_N7 (s : St) : Prop := ∀ p, p < 7 → gI s 6 p = -1 ∨ ((gI s 6 p = 0 ∨ gI s 6 p = 1) ∧ (1 ≤ (gI s 7 p).toInt ∧ (gI s 7 p).toInt ≤ (gI s 0 20).toInt) ∧ (gI s 0 19).toInt + 1 ≤ own_ct (fun x => own_T s x (ix (gI s 7 p) - 1) 1 == gI s 6 p) 7)
def own_N (s : St) : Prop := ((0 ≤ (gI s 0 19).toInt ∧ (gI s 0 19).toInt ≤ 3) ∧ (1 ≤ (gI s 0 20).toInt ∧ (gI s 0 20).toInt ≤ 8) ∧ (gI s 0 21).toInt = 7 - (gI s 0 19).toInt) ∧ (∀ p k, p < 7 → k < 8 → (own_T s p k 0 = -1 ∨ own_T s p k 0 = 0 ∨ own_T s p k 0 = 1) ∧ (own_T s p k 1 = -1 ∨ own_T s p k 1 = 0 ∨ own_T s p k 1 = 1 ∨ own_T s p k 1 = 2)) ∧ (∀ a d k h, a < 7 → d < 7 → k < 8 → h < 2 → (own_C s a d k h = 1 ∨ own_C s a d k h = 2) → own_T s a k h ≠ -1) ∧ own_N4 s ∧ own_N5 s ∧ own_N6 s ∧ own_N7 s ∧ (∀ p, p < 7 → own_T s p 0 0 ≠ -1 → gI s 2 p = own_T s p 0 0)
/-- where a process stands -/
def own_P (s : St) (q : Nat) : Prop := (gI s 1 q = 0 → ∀ k h, k < 8 → h < 2 → own_T s q k h = -1) ∧ (gI s 1 q = 1 → (1 ≤ (gI s 4 q).toInt ∧ (gI s 4 q).toInt ≤ (gI s 0 20).toInt) ∧ (gI s 5 q = 0 ∨ gI s 5 q = 1) ∧ ∀ k h, k < 8 → h < 2 → (ix (gI s 4 q) ≤ k ∨ (k + 1 = ix (gI s 4 q) ∧ ix (gI s 5 q) < h)) → own_T s q k h = -1)
/-- from a round whose reports agree, all agree -/
theorem own_all {s : St} (N : own_N s) (v : Int32) (hv : v = 0 ∨ v = 1) (k0 : Nat) (h0 : ∀ x, x < 7 → own_T s x k0 0 = -1 ∨ own_T s x k0 0 = v) : ∀ n, k0 + n < 8 → (∀ x, x < 7 → own_T s x (k0 + n) 0 = -1 ∨ own_T s x (k0 + n) 0 = v) ∧ (∀ x, x < 7 → own_T s x (k0 + n) 1 = -1 ∨ own_T s x (k0 + n) 1 = v) := by
  obtain ⟨⟨f, r, q⟩, n1, n2, n4, n5, n6, n7, n8⟩ := N
  have pr : ∀ k, k < 8 → (∀ x, x < 7 → own_T s x k 0 = -1 ∨ own_T s x k 0 = v) → ∀ x, x < 7 → own_T s x k 1 = -1 ∨ own_T s x k 1 = v := fun k hk hr x hx => by
    by_cases a : own_T s x k 1 = -1
    · exact Or.inl a
    · by_cases b : own_T s x k 1 = v
      · exact Or.inr b
      · obtain ⟨y, hy, y1, y2⟩ := n5 x k v hx hk hv a b
        rcases hr y hy with z | z
        · exact absurd z y1
        · exact absurd z y2
  intro n
  induction n with
  | zero => exact fun h => ⟨h0, pr k0 h h0⟩
  | succ n ih =>
    intro h
    have i := ih (by omega)
    have rp : ∀ x, x < 7 → own_T s x (k0 + n + 1) 0 = -1 ∨ own_T s x (k0 + n + 1) 0 = v := fun x hx => by
      by_cases a : own_T s x (k0 + n + 1) 0 = -1
      · exact Or.inl a
      · by_cases b : own_T s x (k0 + n + 1) 0 = v
        · exact Or.inr b
        · have c := n6 x (k0 + n) v hx (by omega) hv a b
          have c1 : 1 ≤ own_ct (fun x => own_T s x (k0 + n) 1 != -1 && own_T s x (k0 + n) 1 != v) 7 := by omega
          obtain ⟨y, hy, e⟩ := own_ct_ex 7 c1
          simp at e
          rcases i.2 y hy with z | z
          · exact absurd z e.1
          · exact absurd z e.2
    exact ⟨rp, pr _ h rp⟩
theorem own_dv {s : St} (N : own_N s) {p : Nat} (hp : p < 7) (h : gI s 6 p ≠ -1) : (gI s 6 p = 0 ∨ gI s 6 p = 1) ∧ (1 ≤ (gI s 7 p).toInt ∧ (gI s 7 p).toInt ≤ (gI s 0 20).toInt) ∧ ix (gI s 7 p) - 1 < 8 ∧ (gI s 0 19).toInt + 1 ≤ own_ct (fun x => own_T s x (ix (gI s 7 p) - 1) 1 == gI s 6 p) 7 ∧ ∃ x, x < 7 ∧ own_T s x (ix (gI s 7 p) - 1) 1 = gI s 6 p := by
  have n7 := N.2.2.2.2.2.2.1 p hp
  have w := n7.resolve_left h
  have x := ix_int (i := gI s 7 p) (by omega)
  have f := N.1
  obtain ⟨y, hy, e⟩ := own_ct_ex 7 (show 1 ≤ own_ct (fun x => own_T s x (ix (gI s 7 p) - 1) 1 == gI s 6 p) 7 by omega)
  exact ⟨w.1, w.2.1, by omega, w.2.2, y, hy, by simpa using e⟩
theorem own_ag {s : St} (N : own_N s) {p q : Nat} (hp : p < 7) (hq : q < 7) (dp : gI s 6 p ≠ -1) (dq : gI s 6 q ≠ -1) (le : ix (gI s 7 p) ≤ ix (gI s 7 q)) : gI s 6 p = gI s 6 q := by
  obtain ⟨vp, rp, kp, cp, x, hx, ex⟩ := own_dv N hp dp
  obtain ⟨vq, rq, kq, cq, y, hy, ey⟩ := own_dv N hq dq
  have xp := ix_int (i := gI s 7 p) (by omega)
  have xq := ix_int (i := gI s 7 q) (by omega)
  have NN := N
  obtain ⟨⟨f, r, qq⟩, n1, n2, n4, n5, n6, n7, n8⟩ := N
  refine Classical.byContradiction fun ne => ?_
  have dj : ∀ g : Nat → Int32, own_ct (fun x => g x == gI s 6 p) 7 + own_ct (fun x => g x == gI s 6 q) 7 ≤ 7 := fun g => own_ct_dj 7 fun c _ a b => ne (by simp at a b; rw [← a, ← b])
  by_cases e : ix (gI s 7 p) = ix (gI s 7 q)
  · have a := n4 x _ _ hx kp vp ex
    have b := n4 y _ _ hy kq vq ey
    rw [← e] at b
    have := dj (fun z => own_T s z (ix (gI s 7 p) - 1) 0)
    omega
  · have h0 : ∀ z, z < 7 → own_T s z (ix (gI s 7 p) - 1 + 1) 0 = -1 ∨ own_T s z (ix (gI s 7 p) - 1 + 1) 0 = gI s 6 p := fun z hz => by
      by_cases a : own_T s z (ix (gI s 7 p) - 1 + 1) 0 = -1
      · exact Or.inl a
      · by_cases b : own_T s z (ix (gI s 7 p) - 1 + 1) 0 = gI s 6 p
        · exact Or.inr b
        · have c := n6 z (ix (gI s 7 p) - 1) (gI s 6 p) hz (by omega) vp a b
          have d := own_ct_dj (f := fun x => own_T s x (ix (gI s 7 p) - 1) 1 == gI s 6 p) (g := fun x => own_T s x (ix (gI s 7 p) - 1) 1 != -1 && own_T s x (ix (gI s 7 p) - 1) 1 != gI s 6 p) 7 fun c _ a b => by
            simp at a b
            exact b.2 a
          omega
    have al := own_all NN (gI s 6 p) vp _ h0 (ix (gI s 7 q) - 1 - (ix (gI s 7 p) - 1 + 1)) (by omega)
    have ee : ix (gI s 7 p) - 1 + 1 + (ix (gI s 7 q) - 1 - (ix (gI s 7 p) - 1 + 1)) = ix (gI s 7 q) - 1 := by omega
    rw [ee] at al
    rcases al.2 y hy with z | z
    · rw [z] at ey; exact dq ey.symm
    · exact ne (by rw [← z, ey])
theorem own_agree {s : St} (N : own_N s) {p q : Nat} (hp : p < 7) (hq : q < 7) (dp : gI s 6 p ≠ -1) (dq : gI s 6 q ≠ -1) : gI s 6 p = gI s 6 q := by
  by_cases le : ix (gI s 7 p) ≤ ix (gI s 7 q)
  · exact own_ag N hp hq dp dq le
  · exact (own_ag N hq hp dq dp (by omega)).symm
theorem own_valid {s : St} (N : own_N s) {p : Nat} (hp : p < 7) (dp : gI s 6 p ≠ -1) : ∃ q, q < 7 ∧ gI s 2 q = gI s 6 p := by
  obtain ⟨vp, rp, kp, cp, x, hx, ex⟩ := own_dv N hp dp
  have NN := N
  obtain ⟨⟨f, r, qq⟩, n1, n2, n4, n5, n6, n7, n8⟩ := N
  refine Classical.byContradiction fun no => ?_
  have key : ∀ e : Int32, (e = 0 ∨ e = 1) → e ≠ gI s 6 p → (∀ w : Int32, w = 0 ∨ w = 1 → w ≠ gI s 6 p → w = e) → False := fun e he ne un => by
    have h0 : ∀ z, z < 7 → own_T s z 0 0 = -1 ∨ own_T s z 0 0 = e := fun z hz => by
      by_cases a : own_T s z 0 0 = -1
      · exact Or.inl a
      · have i := n8 z hz a
        refine Or.inr (un _ ((n1 z 0 hz (by decide)).1.resolve_left a) fun w => no ⟨z, hz, by rw [i, w]⟩)
    have al := own_all NN e he 0 h0 (ix (gI s 7 p) - 1) (by omega)
    rw [Nat.zero_add] at al
    rcases al.2 x hx with z | z
    · rw [z] at ex; exact dp ex.symm
    · exact ne (by rw [← z, ex])
  rcases vp with v | v
  · exact key 1 (Or.inr rfl) (by rw [v]; decide) fun w hw nw => hw.resolve_left (by rw [v] at nw; exact nw)
  · exact key 0 (Or.inl rfl) (by rw [v]; decide) fun w hw nw => hw.resolve_right (by rw [v] at nw; exact nw)
/-! writes -/
theorem own_N_cg {s t : St} (N : own_N s) (h0 : ∀ j, j = 19 ∨ j = 20 ∨ j = 21 → gI t 0 j = gI s 0 j) (h : ∀ c j, c = 2 ∨ c = 6 ∨ c = 7 ∨ c = 10 ∨ c = 11 → gI t c j = gI s c j) : own_N t := by
  unfold own_N own_N4 own_N5 own_N6 own_N7 own_T own_C
  simp only [h0 19 (by decide), h0 20 (by decide), h0 21 (by decide), h 2 _ (by decide), h 6 _ (by decide), h 7 _ (by decide), h 10 _ (by decide), h 11 _ (by decide)]
  exact N
theorem own_P_cg {s t : St} {q : Nat} (P : own_P s q) (h0 : gI t 0 20 = gI s 0 20) (h1 : gI t 1 q = gI s 1 q) (h4 : gI t 4 q = gI s 4 q) (h5 : gI t 5 q = gI s 5 q) (hT : ∀ k h, k < 8 → h < 2 → own_T t q k h = own_T s q k h) : own_P t q := by
  unfold own_P at P ⊢
  rw [h0, h1, h4, h5]
  exact ⟨fun a k h hk hh => by rw [hT k h hk hh]; exact P.1 a k h hk hh, fun a => ⟨(P.2 a).1, (P.2 a).2.1, fun k h hk hh l => by rw [hT k h hk hh]; exact (P.2 a).2.2 k h hk hh l⟩⟩
/-- copies change state, none is made -/
theorem own_N_cp {s t : St} (N : own_N s) (h0 : ∀ j, j = 19 ∨ j = 20 ∨ j = 21 → gI t 0 j = gI s 0 j) (h : ∀ c j, c = 2 ∨ c = 6 ∨ c = 7 ∨ c = 10 → gI t c j = gI s c j) (hC : ∀ j, gI t 11 j = 1 ∨ gI t 11 j = 2 → gI s 11 j = 1 ∨ gI s 11 j = 2) : own_N t := by
  obtain ⟨n0, n1, n2, n4, n5, n6, n7, n8⟩ := N
  unfold own_N own_N4 own_N5 own_N6 own_N7 own_T own_C
  simp only [h0 19 (by decide), h0 20 (by decide), h0 21 (by decide), h 2 _ (by decide), h 6 _ (by decide), h 7 _ (by decide), h 10 _ (by decide)]
  exact ⟨n0, n1, fun a d k hh ha hd hk hh2 w => n2 a d k hh ha hd hk hh2 (hC _ w), n4, n5, n6, n7, n8⟩
/-- an input is set -/
theorem own_N_in {s t : St} (N : own_N s) (p : Nat) (h0 : ∀ j, j = 19 ∨ j = 20 ∨ j = 21 → gI t 0 j = gI s 0 j) (h : ∀ c j, c = 6 ∨ c = 7 ∨ c = 10 ∨ c = 11 → gI t c j = gI s c j) (h2 : ∀ j, j ≠ p → gI t 2 j = gI s 2 j) (hp : own_T s p 0 0 = -1) : own_N t := by
  obtain ⟨n0, n1, n2, n4, n5, n6, n7, n8⟩ := N
  unfold own_N own_N4 own_N5 own_N6 own_N7 own_T own_C
  simp only [h0 19 (by decide), h0 20 (by decide), h0 21 (by decide), h 6 _ (by decide), h 7 _ (by decide), h 10 _ (by decide), h 11 _ (by decide)]
  refine ⟨n0, n1, n2, n4, n5, n6, n7, fun q hq a => ?_⟩
  by_cases e : q = p
  · subst e; exact absurd hp a
  · rw [h2 q e]; exact n8 q hq a
/-- a decision is made -/
theorem own_N_de {s t : St} (N : own_N s) (p : Nat) (v r : Int32) (h0 : ∀ j, j = 19 ∨ j = 20 ∨ j = 21 → gI t 0 j = gI s 0 j) (h : ∀ c j, c = 2 ∨ c = 10 ∨ c = 11 → gI t c j = gI s c j) (h6 : ∀ j, j ≠ p → gI t 6 j = gI s 6 j ∧ gI t 7 j = gI s 7 j) (e6 : gI t 6 p = v) (e7 : gI t 7 p = r) (hv : v = 0 ∨ v = 1) (hr : 1 ≤ r.toInt ∧ r.toInt ≤ (gI s 0 20).toInt) (hc : (gI s 0 19).toInt + 1 ≤ own_ct (fun x => own_T s x (ix r - 1) 1 == v) 7) : own_N t := by
  obtain ⟨n0, n1, n2, n4, n5, n6, n7, n8⟩ := N
  unfold own_N own_N4 own_N5 own_N6 own_N7 own_T own_C
  simp only [h0 19 (by decide), h0 20 (by decide), h0 21 (by decide), h 2 _ (by decide), h 10 _ (by decide), h 11 _ (by decide)]
  refine ⟨n0, n1, n2, n4, n5, n6, fun q hq => ?_, n8⟩
  by_cases e : q = p
  · subst e
    rw [e6, e7]
    exact Or.inr ⟨hv, hr, hc⟩
  · rw [(h6 q e).1, (h6 q e).2]; exact n7 q hq
/-- a message is sent -/
theorem own_N_se {s t : St} (N : own_N s) (p k h : Nat) (v : Int32) (hp : p < 7) (hk : k < 8) (hh : h < 2) (h0 : ∀ j, j = 19 ∨ j = 20 ∨ j = 21 → gI t 0 j = gI s 0 j) (hs : ∀ c j, c = 2 ∨ c = 6 ∨ c = 7 → gI t c j = gI s c j) (hT : ∀ j, j ≠ 16 * p + 2 * k + h → gI t 10 j = gI s 10 j) (eT : own_T t p k h = v) (old : own_T s p k h = -1) (hC : ∀ a d k' h', a < 7 → d < 7 → k' < 8 → h' < 2 → ¬ (a = p ∧ k' = k ∧ h' = h) → own_C t a d k' h' = own_C s a d k' h') (hv : v = 0 ∨ v = 1 ∨ (h = 1 ∧ v = 2))
    (g4 : h = 1 → v = 0 ∨ v = 1 → 4 ≤ own_ct (fun x => own_T s x k 0 == v) 7) (g5 : h = 1 → ∀ w : Int32, w = 0 ∨ w = 1 → v ≠ w → ∃ x, x < 7 ∧ own_T s x k 0 ≠ -1 ∧ own_T s x k 0 ≠ w) (g6 : h = 0 → ∀ k', k' + 1 = k → ∀ w : Int32, w = 0 ∨ w = 1 → v ≠ w → (gI s 0 21).toInt ≤ own_ct (fun x => own_T s x k' 1 != -1 && own_T s x k' 1 != w) 7) (g8 : h = 0 → k = 0 → gI s 2 p = v) : own_N t := by
  obtain ⟨n0, n1, n2, n4, n5, n6, n7, n8⟩ := N
  have vn : v ≠ -1 := by rcases hv with q | q | q <;> first | (rw [q]; decide) | (rw [q.2]; decide)
  have T' : ∀ q k' h', q < 7 → k' < 8 → h' < 2 → own_T t q k' h' = if q = p ∧ k' = k ∧ h' = h then v else own_T s q k' h' := fun q k' h' a b c => by
    by_cases e : q = p ∧ k' = k ∧ h' = h
    · rw [if_pos e, e.1, e.2.1, e.2.2]; exact eT
    · rw [if_neg e]; exact hT _ (by omega)
  have keep : ∀ q k' h', q < 7 → k' < 8 → h' < 2 → own_T s q k' h' ≠ -1 → own_T t q k' h' = own_T s q k' h' := fun q k' h' a b c d => by
    rw [T' q k' h' a b c, if_neg (fun e => d (by rw [e.1, e.2.1, e.2.2]; exact old))]
  have mono : ∀ k' h' (w : Int32), k' < 8 → h' < 2 → w ≠ -1 → own_ct (fun x => own_T s x k' h' == w) 7 ≤ own_ct (fun x => own_T t x k' h' == w) 7 := fun k' h' w a b c => own_ct_mono 7 fun x hx e => by
    have e : own_T s x k' h' = w := by simpa using e
    rw [keep x k' h' hx a b (by rw [e]; exact c), e]; simp
  have mono2 : ∀ k' (w : Int32), k' < 8 → own_ct (fun x => own_T s x k' 1 != -1 && own_T s x k' 1 != w) 7 ≤ own_ct (fun x => own_T t x k' 1 != -1 && own_T t x k' 1 != w) 7 := fun k' w a => own_ct_mono 7 fun x hx e => by
    have e : own_T s x k' 1 ≠ -1 ∧ own_T s x k' 1 ≠ w := by simpa using e
    rw [keep x k' 1 hx a (by decide) e.1]
    simpa using e
  have nv : ∀ w : Int32, w = 0 ∨ w = 1 → w ≠ -1 := fun w hw => by rcases hw with q | q <;> rw [q] <;> decide
  refine ⟨by rw [h0 19 (by decide), h0 20 (by decide), h0 21 (by decide)]; exact n0, fun q k' hq hk' => ?_, fun a d k' h' ha hd hk' hh' w => ?_, fun q k' w hq hk' hw e => ?_, fun q k' w hq hk' hw e1 e2 => ?_, fun q k' w hq hk' hw e1 e2 => ?_, fun q hq => ?_, fun q hq e => ?_⟩
  · rw [T' q k' 0 hq hk' (by decide), T' q k' 1 hq hk' (by decide)]
    have o := n1 q k' hq hk'
    refine ⟨?_, ?_⟩
    · split
      · rename_i c
        rcases hv with z | z | z
        · exact Or.inr (Or.inl z)
        · exact Or.inr (Or.inr z)
        · omega
      · exact o.1
    · split
      · rename_i c
        rcases hv with z | z | z
        · exact Or.inr (Or.inl z)
        · exact Or.inr (Or.inr (Or.inl z))
        · exact Or.inr (Or.inr (Or.inr z.2))
      · exact o.2
  · rw [T' a k' h' ha hk' hh']
    split
    · exact vn
    · rename_i c
      rw [hC a d k' h' ha hd hk' hh' c] at w
      exact n2 a d k' h' ha hd hk' hh' w
  · rw [T' q k' 1 hq hk' (by decide)] at e
    have c : 4 ≤ own_ct (fun x => own_T s x k' 0 == w) 7 := by
      by_cases z : q = p ∧ k' = k ∧ 1 = h
      · rw [if_pos z] at e
        rw [z.2.1, ← e]
        exact g4 z.2.2.symm (by rw [e]; exact hw)
      · rw [if_neg z] at e
        exact n4 q k' w hq hk' hw e
    have := mono k' 0 w hk' (by decide) (nv w hw)
    omega
  · rw [T' q k' 1 hq hk' (by decide)] at e1 e2
    have c : ∃ x, x < 7 ∧ own_T s x k' 0 ≠ -1 ∧ own_T s x k' 0 ≠ w := by
      by_cases z : q = p ∧ k' = k ∧ 1 = h
      · rw [if_pos z] at e2
        rw [z.2.1]
        exact g5 z.2.2.symm w hw e2
      · rw [if_neg z] at e1 e2
        exact n5 q k' w hq hk' hw e1 e2
    obtain ⟨x, hx, c1, c2⟩ := c
    exact ⟨x, hx, by rw [keep x k' 0 hx hk' (by decide) c1]; exact c1, by rw [keep x k' 0 hx hk' (by decide) c1]; exact c2⟩
  · rw [T' q (k' + 1) 0 hq (by omega) (by decide)] at e1 e2
    rw [h0 21 (by decide)]
    have c : (gI s 0 21).toInt ≤ own_ct (fun x => own_T s x k' 1 != -1 && own_T s x k' 1 != w) 7 := by
      by_cases z : q = p ∧ k' + 1 = k ∧ 0 = h
      · rw [if_pos z] at e2
        exact g6 z.2.2.symm k' z.2.1 w hw e2
      · rw [if_neg z] at e1 e2
        exact n6 q k' w hq hk' hw e1 e2
    have := mono2 k' w (by omega)
    omega
  · rw [hs 6 q (by decide), hs 7 q (by decide), h0 19 (by decide), h0 20 (by decide)]
    rcases n7 q hq with z | z
    · exact Or.inl z
    · refine Or.inr ⟨z.1, z.2.1, ?_⟩
      have x := ix_int (i := gI s 7 q) (by omega)
      have := mono (ix (gI s 7 q) - 1) 1 (gI s 6 q) (by omega) (by decide) (nv _ z.1)
      omega
  · rw [T' q 0 0 hq (by decide) (by decide)] at e ⊢
    rw [hs 2 q (by decide)]
    by_cases z : q = p ∧ 0 = k ∧ 0 = h
    · rw [if_pos z, z.1]; exact g8 z.2.2.symm z.2.1.symm
    · rw [if_neg z] at e ⊢; exact n8 q hq e

/-! the walk of the protocol -/
theorem own_ne {s : St} {c j c' j' : Nat} {v : Int32} (h : ¬ (c' = c ∧ j' = j)) : gI (sI s c j v) c' j' = gI s c' j' := by rw [gI_sI, if_neg h]
theorem own_nc {s : St} {c j c' j' : Nat} {v : Int32} (h : c' ≠ c) : gI (sI s c j v) c' j' = gI s c' j' := by rw [gI_sI, if_neg (fun w => h w.1)]
theorem own_eq {s : St} {c j : Nat} {v : Int32} : gI (sI s c j v) c j = v := by rw [gI_sI, if_pos ⟨rfl, rfl⟩]
theorem own_sx {p r ph : Int32} (hp : 0 ≤ p.toInt ∧ p.toInt < 7) (hr : 1 ≤ r.toInt ∧ r.toInt ≤ 8) (hh : 0 ≤ ph.toInt ∧ ph.toInt < 2) : inb 112 ((p * 8 + (r - 1)) * 2 + ph) ∧ ix ((p * 8 + (r - 1)) * 2 + ph) = 16 * ix p + 2 * (ix r - 1) + ix ph := by
  have a := ix_int hp.1
  have b := ix_int (i := r) (by omega)
  have c := ix_int hh.1
  have e1 : (p * 8).toInt = p.toInt * 8 := by rw [i32_mul] <;> simp <;> omega
  have e2 : (r - 1).toInt = r.toInt - 1 := by rw [i32_sub] <;> simp <;> omega
  have e3 : (p * 8 + (r - 1)).toInt = p.toInt * 8 + (r.toInt - 1) := by rw [i32_add (by omega) (by omega), e1, e2]
  have e4 : ((p * 8 + (r - 1)) * 2).toInt = (p.toInt * 8 + (r.toInt - 1)) * 2 := by
    rw [i32_mul (by rw [e3]; show (-2147483648 : Int) ≤ _ * (2 : Int); omega) (by rw [e3]; show _ * (2 : Int) < (2147483648 : Int); omega), e3]; rfl
  have e5 : ((p * 8 + (r - 1)) * 2 + ph).toInt = (p.toInt * 8 + (r.toInt - 1)) * 2 + ph.toInt := by rw [i32_add (by omega) (by omega), e4]
  have d := ix_int (i := (p * 8 + (r - 1)) * 2 + ph) (by omega)
  exact ⟨⟨by omega, by show _ < (112 : Int); omega⟩, by omega⟩
theorem own_cx {p q r ph : Int32} (hp : 0 ≤ p.toInt ∧ p.toInt < 7) (hq : 0 ≤ q.toInt ∧ q.toInt < 7) (hr : 1 ≤ r.toInt ∧ r.toInt ≤ 8) (hh : 0 ≤ ph.toInt ∧ ph.toInt < 2) : inb 784 (((p * 7 + q) * 8 + (r - 1)) * 2 + ph) ∧ ix (((p * 7 + q) * 8 + (r - 1)) * 2 + ph) = 16 * (7 * ix p + ix q) + 2 * (ix r - 1) + ix ph := by
  have a := ix_int hp.1
  have a' := ix_int hq.1
  have b := ix_int (i := r) (by omega)
  have c := ix_int hh.1
  have e0 : (p * 7).toInt = p.toInt * 7 := by rw [i32_mul] <;> simp <;> omega
  have e0' : (p * 7 + q).toInt = p.toInt * 7 + q.toInt := by rw [i32_add (by omega) (by omega), e0]
  have e1 : ((p * 7 + q) * 8).toInt = (p.toInt * 7 + q.toInt) * 8 := by
    rw [i32_mul (by rw [e0']; show (-2147483648 : Int) ≤ _ * (8 : Int); omega) (by rw [e0']; show _ * (8 : Int) < (2147483648 : Int); omega), e0']; rfl
  have e2 : (r - 1).toInt = r.toInt - 1 := by rw [i32_sub] <;> simp <;> omega
  have e3 : ((p * 7 + q) * 8 + (r - 1)).toInt = (p.toInt * 7 + q.toInt) * 8 + (r.toInt - 1) := by rw [i32_add (by omega) (by omega), e1, e2]
  have e4 : (((p * 7 + q) * 8 + (r - 1)) * 2).toInt = ((p.toInt * 7 + q.toInt) * 8 + (r.toInt - 1)) * 2 := by
    rw [i32_mul (by rw [e3]; show (-2147483648 : Int) ≤ _ * (2 : Int); omega) (by rw [e3]; show _ * (2 : Int) < (2147483648 : Int); omega), e3]; rfl
  have e5 : (((p * 7 + q) * 8 + (r - 1)) * 2 + ph).toInt = ((p.toInt * 7 + q.toInt) * 8 + (r.toInt - 1)) * 2 + ph.toInt := by rw [i32_add (by omega) (by omega), e4]
  have d := ix_int (i := ((p * 7 + q) * 8 + (r - 1)) * 2 + ph) (by omega)
  exact ⟨⟨by omega, by show _ < (784 : Int); omega⟩, by omega⟩
theorem own_lt1 {x : Int32} : x < 1 ↔ x.toInt < 1 := i32_lt
theorem own_lt0 {x : Int32} : x < 0 ↔ x.toInt < 0 := i32_lt
theorem own_lt7 {x : Int32} : x < 7 ↔ x.toInt < 7 := i32_lt
theorem own_lt2 {x : Int32} : x < 2 ↔ x.toInt < 2 := i32_lt
theorem own_hh {ph : Int32} (hh : ph = 0 ∨ ph = 1) : 0 ≤ ph.toInt ∧ ph.toInt < 2 := by
  rcases hh with q | q <;> rw [q] <;> decide
theorem own_v21 (s : St) (p : Int32) (hp : 0 ≤ p.toInt ∧ p.toInt < 7) (Q : Int32 → St → Prop) (h : Q 1 s) : calI PP 21 11 [.ref 0, .int p] s Q := own_21 s p _ (fun _ _ => h) (fun q => absurd hp q)
theorem own_v22 (s : St) (r : Int32) (Q : Int32 → St → Prop) (h1 : 1 ≤ r.toInt → r.toInt ≤ (gI s 0 20).toInt → Q 1 s) (h0 : ¬ (1 ≤ r.toInt ∧ r.toInt ≤ (gI s 0 20).toInt) → Q 0 s) : calI PP 22 11 [.ref 0, .int r] s Q := by
  apply c22_in
  refine ⟨fun a => h0 (by rw [own_lt1] at a; omega), fun a => ⟨fun b => h0 (by rw [i32_lt] at b; omega), fun b => h1 (by rw [own_lt1] at a; omega) (by rw [i32_lt] at b; omega)⟩⟩
theorem own_v23 (s : St) (ph : Int32) (hh : ph = 0 ∨ ph = 1) (Q : Int32 → St → Prop) (h : Q 1 s) : calI PP 23 11 [.ref 0, .int ph] s Q := by
  apply c23_in
  refine ⟨fun _ => h, fun a => ⟨fun _ => h, fun b => absurd (hh.resolve_left a) b⟩⟩
theorem own_v31 (s : St) (p d r ph : Int32) (hp : 0 ≤ p.toInt ∧ p.toInt < 7) (hd : 0 ≤ d.toInt ∧ d.toInt < 7) (hh : ph = 0 ∨ ph = 1) (Q : Int32 → St → Prop) (h1 : 1 ≤ r.toInt → r.toInt ≤ (gI s 0 20).toInt → Q 1 s) (h0 : ¬ (1 ≤ r.toInt ∧ r.toInt ≤ (gI s 0 20).toInt) → Q 0 s) : calI PP 31 11 [.ref 0, .int p, .int d, .int r, .int ph] s Q := by
  apply c31_in
  exact own_v21 s p hp _ ⟨fun q => absurd q (by decide), fun _ => own_v21 s d hd _ ⟨fun q => absurd q (by decide), fun _ => own_v22 s r _ (fun a b => ⟨fun q => absurd q (by decide), fun _ => own_v23 s ph hh _ (h1 a b)⟩) (fun a => ⟨fun _ => h0 a, fun q => absurd rfl q⟩)⟩⟩
theorem own_v34 (s : St) (R8 : (gI s 0 20).toInt ≤ 8) (a d r ph : Int32) (ha : 0 ≤ a.toInt ∧ a.toInt < 7) (hd : 0 ≤ d.toInt ∧ d.toInt < 7) (hh : ph = 0 ∨ ph = 1) (Q : Int32 → St → Prop) (h1 : 1 ≤ r.toInt → r.toInt ≤ (gI s 0 20).toInt → Q (own_C s (ix a) (ix d) (ix r - 1) (ix ph)) s) (h0 : ¬ (1 ≤ r.toInt ∧ r.toInt ≤ (gI s 0 20).toInt) → Q (-1) s) : calI PP 34 11 [.ref 0, .int a, .int d, .int r, .int ph] s Q := by
  apply c34_in
  refine own_v31 s a d r ph ha hd hh _ (fun r1 r2 => ⟨fun q => absurd q (by decide), fun _ => c30_in _ _ _ _ _ _ ?_⟩) (fun b => ⟨fun _ => h0 b, fun q => absurd rfl q⟩)
  obtain ⟨i1, i2⟩ := own_cx ha hd ⟨r1, by omega⟩ (own_hh hh)
  rw [i2]
  exact ⟨i1, h1 r1 r2⟩
theorem own_v35 (s : St) (R8 : (gI s 0 20).toInt ≤ 8) (a d r ph v : Int32) (ha : 0 ≤ a.toInt ∧ a.toInt < 7) (hd : 0 ≤ d.toInt ∧ d.toInt < 7) (hr : 1 ≤ r.toInt ∧ r.toInt ≤ (gI s 0 20).toInt) (hh : ph = 0 ∨ ph = 1) (Q : St → Prop) (h : Q (sI s 11 (16 * (7 * ix a + ix d) + 2 * (ix r - 1) + ix ph) v)) : calV PP 35 11 [.ref 0, .int a, .int d, .int r, .int ph, .int v] s Q := by
  apply c35_in
  refine own_v31 s a d r ph ha hd hh _ (fun r1 r2 => ⟨fun q => absurd q (by decide), fun _ => c30_in _ _ _ _ _ _ ?_⟩) (fun b => absurd hr b)
  obtain ⟨i1, i2⟩ := own_cx ha hd ⟨r1, by omega⟩ (own_hh hh)
  rw [i2]
  exact ⟨i1, h⟩
theorem own_v32 (s : St) (R8 : (gI s 0 20).toInt ≤ 8) (a r ph : Int32) (ha : 0 ≤ a.toInt ∧ a.toInt < 7) (hr : 1 ≤ r.toInt ∧ r.toInt ≤ (gI s 0 20).toInt) (hh : ph = 0 ∨ ph = 1) (Q : Int32 → St → Prop) (h : Q (own_T s (ix a) (ix r - 1) (ix ph)) s) : calI PP 32 11 [.ref 0, .int a, .int r, .int ph] s Q := by
  apply c32_in
  refine own_v31 s a 0 r ph ha (by decide) hh _ (fun r1 r2 => ⟨fun q => absurd q (by decide), fun _ => c29_in _ _ _ _ _ ?_⟩) (fun b => absurd hr b)
  obtain ⟨i1, i2⟩ := own_sx ha ⟨r1, by omega⟩ (own_hh hh)
  rw [i2]
  exact ⟨i1, h⟩
theorem own_v33 (s : St) (R8 : (gI s 0 20).toInt ≤ 8) (a r ph v : Int32) (ha : 0 ≤ a.toInt ∧ a.toInt < 7) (hr : 1 ≤ r.toInt ∧ r.toInt ≤ (gI s 0 20).toInt) (hh : ph = 0 ∨ ph = 1) (Q : St → Prop) (h : Q (sI s 10 (16 * ix a + 2 * (ix r - 1) + ix ph) v)) : calV PP 33 11 [.ref 0, .int a, .int r, .int ph, .int v] s Q := by
  apply c33_in
  refine own_v31 s a 0 r ph ha (by decide) hh _ (fun r1 r2 => ⟨fun q => absurd q (by decide), fun _ => c29_in _ _ _ _ _ ?_⟩) (fun b => absurd hr b)
  obtain ⟨i1, i2⟩ := own_sx ha ⟨r1, by omega⟩ (own_hh hh)
  rw [i2]
  exact ⟨i1, h⟩
/-- broadcast -/
theorem own_v36 (s : St) (R8 : (gI s 0 20).toInt ≤ 8) (p r ph v : Int32) (hp : 0 ≤ p.toInt ∧ p.toInt < 7) (hr : 1 ≤ r.toInt ∧ r.toInt ≤ (gI s 0 20).toInt) (hh : ph = 0 ∨ ph = 1) (hv : v = 0 ∨ v = 1 ∨ v = 2) (Q : St → Prop) (h : ∀ t, (∀ c j, c ≠ 10 → c ≠ 11 → gI t c j = gI s c j) → (∀ j, j ≠ 16 * ix p + 2 * (ix r - 1) + ix ph → gI t 10 j = gI s 10 j) → own_T t (ix p) (ix r - 1) (ix ph) = v → (∀ a d k' h', a < 7 → d < 7 → k' < 8 → h' < 2 → ¬ (a = ix p ∧ k' = ix r - 1 ∧ h' = ix ph) → own_C t a d k' h' = own_C s a d k' h') → Q t) : calV PP 36 11 [.ref 0, .int p, .int r, .int ph, .int v] s Q := by
  have xp := ix_int hp.1
  have xr := ix_int (i := r) (by omega)
  have hh2 := own_hh hh
  have xh := ix_int hh2.1
  apply c36_in
  have v25 : ∀ Q : Int32 → St → Prop, Q 1 s → calI PP 25 11 [.ref 0, .int v] s Q := fun Q hq => by
    apply c25_in
    exact ⟨fun _ => hq, fun a => ⟨fun _ => hq, fun b => ⟨fun _ => hq, fun c => absurd ((hv.resolve_left a).resolve_left b) c⟩⟩⟩
  refine v25 _ ⟨fun q => absurd q (by decide), fun _ => own_v33 s R8 p r ph v hp hr hh _ ?_⟩
  refine loop_up (F := fun i => ∀ u, (∀ c j, c ≠ 10 → c ≠ 11 → gI u c j = gI s c j) → (∀ j, j ≠ 16 * ix p + 2 * (ix r - 1) + ix ph → gI u 10 j = gI s 10 j) → own_T u (ix p) (ix r - 1) (ix ph) = v → (∀ a d k' h', a < 7 → d < 7 → k' < 8 → h' < 2 → ¬ (a = ix p ∧ k' = ix r - 1 ∧ h' = ix ph) → own_C u a d k' h' = own_C s a d k' h') → wpcV PP 36 cm36 11 22 [some (.ref 0), some (.int p), some (.int r), some (.int ph), none, some (.int i)] [] u Q) 7 (by decide) (fun i i0 i1 e ih u u1 u2 u3 u4 => ?_) (fun i hi u u1 u2 u3 u4 => c36_22 _ _ _ _ _ _ ⟨fun q => absurd q (by rw [own_lt7]; omega), fun _ => h u u1 u2 u3 u4⟩) 0 (by decide) (by decide) _ (fun c j a b => own_nc a) (fun j a => own_ne (fun w => a w.2)) own_eq (fun a d k' h' _ _ _ _ _ => own_nc (by decide))
  have xi := ix_int i0
  have e20 := u1 0 20 (by decide) (by decide)
  refine c36_22 _ _ _ _ _ _ ⟨fun _ => own_v35 u (by rw [e20]; exact R8) p i r ph 1 hp ⟨i0, i1⟩ (by rw [e20]; exact hr) hh _ (ih _ (fun c j a b => by rw [own_nc b]; exact u1 c j a b) (fun j a => by rw [own_nc (by decide)]; exact u2 j a) (by unfold own_T at u3 ⊢; rw [own_nc (by decide)]; exact u3) (fun a d k' h' ha hd hk hh' n => ?_)), fun q => absurd (by rw [own_lt7]; exact i1) q⟩
  have := u4 a d k' h' ha hd hk hh' n
  unfold own_C at this ⊢
  rw [own_ne (by omega)]; exact this
/-- heldCount, heldValueCount -/
theorem own_v40 (s : St) (R8 : (gI s 0 20).toInt ≤ 8) (d r ph : Int32) (hd : 0 ≤ d.toInt ∧ d.toInt < 7) (hr : 1 ≤ r.toInt ∧ r.toInt ≤ (gI s 0 20).toInt) (hh : ph = 0 ∨ ph = 1) (Q : Int32 → St → Prop) (h : ∀ c : Int32, c.toInt = own_ct (fun a => own_C s a (ix d) (ix r - 1) (ix ph) == 2) 7 → Q c s) : calI PP 40 11 [.ref 0, .int d, .int r, .int ph] s Q := by
  apply c40_in
  refine loop_up (F := fun i => ∀ x : Int32, x.toInt = own_ct (fun a => own_C s a (ix d) (ix r - 1) (ix ph) == 2) (ix i) → wpcI PP 40 cm40 11 6 [some (.ref 0), some (.int d), some (.int r), some (.int ph), some (.int x), some (.int i)] [] s Q) 7 (by decide) (fun i i0 i1 e ih x hx => ?_) (fun i hi x hx => ?_) 0 (by decide) (by decide) 0 rfl
  · have xi := ix_int i0
    have xj := ix_int (i := i + 1) (by omega)
    refine c40_6 _ _ _ _ _ _ _ ⟨fun _ => own_v34 s R8 i d r ph ⟨i0, i1⟩ hd hh _ (fun _ _ m em => ih m ?_) (fun q => absurd hr q), fun q => absurd (by rw [own_lt7]; exact i1) q⟩
    have le := own_ct_le (f := fun a => own_C s a (ix d) (ix r - 1) (ix ph) == 2) (ix i)
    rw [show ix (i + 1) = ix i + 1 by omega]
    show _ = ((own_ct (fun a => own_C s a (ix d) (ix r - 1) (ix ph) == 2) (ix i) + (if (own_C s (ix i) (ix d) (ix r - 1) (ix ph) == 2) = true then 1 else 0) : Nat) : Int)
    rw [em]
    by_cases w : own_C s (ix i) (ix d) (ix r - 1) (ix ph) = 2
    · rw [if_pos w, if_pos (by simp [w])]
      have : (x + 1).toInt = x.toInt + 1 := by rw [i32_add] <;> simp <;> omega
      rw [this, hx]; rfl
    · rw [if_neg w, if_neg (by simp [w]), hx]; rfl
  · have : ix i = 7 := by have := ix_int (i := i) (by omega); omega
    rw [this] at hx
    exact c40_6 _ _ _ _ _ _ _ ⟨fun q => absurd q (by rw [own_lt7]; omega), fun _ => h x hx⟩
theorem own_v41 (s : St) (R8 : (gI s 0 20).toInt ≤ 8) (d r ph v : Int32) (hd : 0 ≤ d.toInt ∧ d.toInt < 7) (hr : 1 ≤ r.toInt ∧ r.toInt ≤ (gI s 0 20).toInt) (hh : ph = 0 ∨ ph = 1) (Q : Int32 → St → Prop) (h : ∀ c : Int32, c.toInt = own_ct (fun a => own_C s a (ix d) (ix r - 1) (ix ph) == 2 && own_T s a (ix r - 1) (ix ph) == v) 7 → Q c s) : calI PP 41 11 [.ref 0, .int d, .int r, .int ph, .int v] s Q := by
  apply c41_in
  refine loop_up (F := fun i => ∀ x : Int32, x.toInt = own_ct (fun a => own_C s a (ix d) (ix r - 1) (ix ph) == 2 && own_T s a (ix r - 1) (ix ph) == v) (ix i) → wpcI PP 41 cm41 11 6 [some (.ref 0), some (.int d), some (.int r), some (.int ph), some (.int v), some (.int x), some (.int i)] [] s Q) 7 (by decide) (fun i i0 i1 e ih x hx => ?_) (fun i hi x hx => ?_) 0 (by decide) (by decide) 0 rfl
  · have xi := ix_int i0
    have xj := ix_int (i := i + 1) (by omega)
    have le := own_ct_le (f := fun a => own_C s a (ix d) (ix r - 1) (ix ph) == 2 && own_T s a (ix r - 1) (ix ph) == v) (ix i)
    have st : (own_ct (fun a => own_C s a (ix d) (ix r - 1) (ix ph) == 2 && own_T s a (ix r - 1) (ix ph) == v) (ix (i + 1)) : Nat) = own_ct (fun a => own_C s a (ix d) (ix r - 1) (ix ph) == 2 && own_T s a (ix r - 1) (ix ph) == v) (ix i) + (if (own_C s (ix i) (ix d) (ix r - 1) (ix ph) == 2 && own_T s (ix i) (ix r - 1) (ix ph) == v) = true then 1 else 0) := by
      rw [show ix (i + 1) = ix i + 1 by omega]; rfl
    have e1 : (x + 1).toInt = x.toInt + 1 := by rw [i32_add] <;> simp <;> omega
    refine c41_6 _ _ _ _ _ _ _ _ ⟨fun _ => own_v34 s R8 i d r ph ⟨i0, i1⟩ hd hh _ (fun _ _ => ⟨fun w => own_v32 s R8 i r ph ⟨i0, i1⟩ hr hh _ fun m em => c41_42 _ _ _ _ _ _ _ _ (ih m ?_), fun w => c41_42 _ _ _ _ _ _ _ _ (ih x ?_)⟩) (fun q => absurd hr q), fun q => absurd (by rw [own_lt7]; exact i1) q⟩
    · rw [st, em]
      by_cases y : own_T s (ix i) (ix r - 1) (ix ph) = v
      · rw [if_pos y, if_pos (by simp [w, y]), e1, hx]; rfl
      · rw [if_neg y, if_neg (by simp [y]), hx]; rfl
    · rw [st, if_neg (by simp [w]), hx]; rfl
  · have : ix i = 7 := by have := ix_int (i := i) (by omega); omega
    rw [this] at hx
    exact c41_6 _ _ _ _ _ _ _ _ ⟨fun q => absurd q (by rw [own_lt7]; omega), fun _ => h x hx⟩

def own_J (s : St) : Prop := own_N s ∧ ∀ q, q < 7 → own_P s q
def own_ev (s t : St) : Prop := gI t 0 20 = gI s 0 20 ∧ ∀ q, q < 7 → gI s 6 q ≠ -1 → gI t 6 q = gI s 6 q ∧ gI t 7 q = gI s 7 q
theorem own_ev_rf (s : St) : own_ev s s := ⟨rfl, fun _ _ _ => ⟨rfl, rfl⟩⟩
theorem own_ev_tr {s t u : St} (h : own_ev s t) (k : own_ev t u) : own_ev s u := ⟨by rw [k.1, h.1], fun q hq d => by
  have a := h.2 q hq d
  have b := k.2 q hq (by rw [a.1]; exact d)
  exact ⟨by rw [b.1, a.1], by rw [b.2, a.2]⟩⟩
theorem own_ev_cg {s t : St} (h0 : gI t 0 20 = gI s 0 20) (h : ∀ c j, c = 6 ∨ c = 7 → gI t c j = gI s c j) : own_ev s t := ⟨h0, fun q _ _ => ⟨h 6 q (Or.inl rfl), h 7 q (Or.inr rfl)⟩⟩
theorem own_2x {x : Int32} (h : 0 ≤ x.toInt ∧ x.toInt ≤ 7) : (7 : Int32) < 2 * x ↔ 4 ≤ x.toInt := by
  have e : (2 * x).toInt = 2 * x.toInt := i32_mul (x := 2) (y := x) (by show (-2147483648 : Int) ≤ 2 * x.toInt; omega) (by show 2 * x.toInt < (2147483648 : Int); omega)
  have l : (7 : Int32) < 2 * x ↔ 7 < (2 * x).toInt := i32_lt
  rw [l, e]; omega
/-- held counts, in words of the table -/
theorem own_hc {s : St} (N : own_N s) {d k h : Nat} (hd : d < 7) (hk : k < 8) (hh : h < 2) (v : Int32) : own_ct (fun a => own_C s a d k h == 2 && own_T s a k h == v) 7 ≤ own_ct (fun a => own_T s a k h == v) 7 := own_ct_mono 7 fun a _ e => by
  simp at e
  simp [e.2]
/-- the end of a report phase -/
theorem own_v47 (s : St) (J : own_J s) (p r c0 c1 : Int32) (hp : 0 ≤ p.toInt ∧ p.toInt < 7) (s1 : gI s 1 (ix p) = 1) (e4 : gI s 4 (ix p) = r) (e5 : gI s 5 (ix p) = 0) (hq : (gI s 0 21).toInt ≤ own_ct (fun a => own_C s a (ix p) (ix r - 1) 0 == 2) 7) (h0 : c0.toInt = own_ct (fun a => own_C s a (ix p) (ix r - 1) 0 == 2 && own_T s a (ix r - 1) 0 == 0) 7) (h1 : c1.toInt = own_ct (fun a => own_C s a (ix p) (ix r - 1) 0 == 2 && own_T s a (ix r - 1) 0 == 1) 7) (Q : St → Prop) (h : ∀ t, own_J t → own_ev s t → Q t) : calV PP 47 11 [.ref 0, .int p, .int r, .int c0, .int c1] s Q := by
  obtain ⟨N, P⟩ := J
  have NN := N
  obtain ⟨⟨f, rr, qq⟩, n1, n2, n4, n5, n6, n7, n8⟩ := NN
  have xp := ix_int hp.1
  have pp := (P (ix p) (by omega)).2 s1
  rw [e4, e5] at pp
  obtain ⟨hr, -, late⟩ := pp
  have xr := ix_int (i := r) (by omega)
  have i0 : ix (0 : Int32) = 0 := rfl
  have i1 : ix (1 : Int32) = 1 := rfl
  rw [i0] at late
  have old := late (ix r - 1) 1 (by omega) (by omega) (Or.inr ⟨by omega, by omega⟩)
  have l0 := own_ct_le (f := fun a => own_C s a (ix p) (ix r - 1) 0 == 2 && own_T s a (ix r - 1) 0 == 0) 7
  have l1 := own_ct_le (f := fun a => own_C s a (ix p) (ix r - 1) 0 == 2 && own_T s a (ix r - 1) 0 == 1) 7
  have m0 := own_hc N (d := ix p) (k := ix r - 1) (h := 0) (by omega) (by omega) (by decide) 0
  have m1 := own_hc N (d := ix p) (k := ix r - 1) (h := 0) (by omega) (by omega) (by decide) 1
  have dj := own_ct_dj (f := fun a => own_C s a (ix p) (ix r - 1) 0 == 2 && own_T s a (ix r - 1) 0 == 0) (g := fun a => own_C s a (ix p) (ix r - 1) 0 == 2 && own_T s a (ix r - 1) 0 == 1) 7 fun c _ a b => by
    simp at a b
    rw [a.2] at b
    exact absurd b.2 (by decide)
  have few : ∀ w : Int32, own_ct (fun a => own_C s a (ix p) (ix r - 1) 0 == 2 && own_T s a (ix r - 1) 0 == w) 7 ≤ 3 → ∃ x, x < 7 ∧ own_T s x (ix r - 1) 0 ≠ -1 ∧ own_T s x (ix r - 1) 0 ≠ w := fun w le => by
    have sp := own_ct_sp (f := fun a => own_C s a (ix p) (ix r - 1) 0 == 2) (g := fun a => own_T s a (ix r - 1) 0 == w) 7
    obtain ⟨x, hx, e⟩ := own_ct_ex (f := fun a => own_C s a (ix p) (ix r - 1) 0 == 2 && !(own_T s a (ix r - 1) 0 == w)) 7 (by omega)
    simp at e
    exact ⟨x, hx, n2 x (ix p) (ix r - 1) 0 hx (by omega) (by omega) (by decide) (Or.inr e.1), e.2⟩
  have go : ∀ w : Int32, (w = 0 ∧ 4 ≤ c0.toInt) ∨ (w = 1 ∧ ¬ 4 ≤ c0.toInt ∧ 4 ≤ c1.toInt) ∨ (w = 2 ∧ ¬ 4 ≤ c0.toInt ∧ ¬ 4 ≤ c1.toInt) → calV PP 36 11 [.ref 0, .int p, .int r, .int 1, .int w] s (fun t => inb 7 p ∧ Q (sI t 5 (ix p) 1)) := fun w hw => by
    have hw2 : w = 0 ∨ w = 1 ∨ w = 2 := by
      rcases hw with q | q | q
      · exact Or.inl q.1
      · exact Or.inr (Or.inl q.1)
      · exact Or.inr (Or.inr q.1)
    refine own_v36 s rr.2 p r 1 w hp hr (Or.inr rfl) hw2 _ fun t t1 t2 t3 t4 => ⟨hp, ?_⟩
    rw [i1] at t2 t3 t4
    have N1 : own_N t := own_N_se N (ix p) (ix r - 1) 1 w (by omega) (by omega) (by decide) (fun j hj => t1 0 j (by decide) (by decide)) (fun c j hc => t1 c j (by omega) (by omega)) t2 t3 old t4 (hw2.imp id fun z => z.imp id fun y => ⟨rfl, y⟩) (fun _ _ => by
      rcases hw with q | q | q
      · rw [q.1]; omega
      · rw [q.1]; omega
      · rename_i z
        rw [q.1] at z
        rcases z with z | z <;> exact absurd z (by decide)) (fun _ w' hw' ne => by
      rcases hw' with z | z
      · subst z
        refine few 0 ?_
        rcases hw with q | q | q
        · exact absurd q.1 ne
        · omega
        · omega
      · subst z
        refine few 1 ?_
        rcases hw with q | q | q
        · omega
        · exact absurd q.1 ne
        · omega) (fun z => absurd z (by decide)) (fun z => absurd z (by decide))
    have N2 : own_N (sI t 5 (ix p) 1) := own_N_cg N1 (fun j hj => own_nc (by decide)) (fun c j hc => own_nc (by omega))
    refine h _ ⟨N2, fun q hq => ?_⟩ (own_ev_cg (by rw [own_nc (by decide)]; exact t1 0 20 (by decide) (by decide)) (fun c j hc => by rw [own_nc (by omega)]; exact t1 c j (by omega) (by omega)))
    have c20 : gI (sI t 5 (ix p) 1) 0 20 = gI s 0 20 := by rw [own_nc (by decide)]; exact t1 0 20 (by decide) (by decide)
    have cc : ∀ j, gI (sI t 5 (ix p) 1) 1 j = gI s 1 j := fun j => by rw [own_nc (by decide)]; exact t1 1 j (by decide) (by decide)
    have c4 : ∀ j, gI (sI t 5 (ix p) 1) 4 j = gI s 4 j := fun j => by rw [own_nc (by decide)]; exact t1 4 j (by decide) (by decide)
    by_cases e : q = ix p
    · subst e
      unfold own_P
      rw [c20, cc, c4, own_eq, e4, s1]
      refine ⟨fun z => absurd z (by decide), fun _ => ⟨hr, Or.inr rfl, fun k h hk hh l => ?_⟩⟩
      rw [i1] at l
      unfold own_T
      rw [own_nc (by decide), t2 _ (by omega)]
      exact late k h hk hh (by omega)
    · refine own_P_cg (P q hq) c20 (cc q) (c4 q) (by rw [own_ne (fun w => e w.2)]; exact t1 5 q (by decide) (by decide)) (fun k h hk hh => ?_)
      unfold own_T
      rw [own_nc (by decide), t2 _ (by omega)]
  have x0 := own_2x (x := c0) ⟨by omega, by omega⟩
  have x1 := own_2x (x := c1) ⟨by omega, by omega⟩
  apply c47_in
  apply c44_in
  refine ⟨fun a => go 0 (Or.inl ⟨rfl, x0.mp a⟩), fun a => ⟨fun b => go 1 (Or.inr (Or.inl ⟨rfl, fun w => a (x0.mpr w), x1.mp b⟩)), fun b => go 2 (Or.inr (Or.inr ⟨rfl, fun w => a (x0.mpr w), fun w => b (x1.mpr w)⟩))⟩⟩
/-- the end of a round -/
theorem own_v48t (s m : St) (J : own_J s) (p r : Int32) (hp : 0 ≤ p.toInt ∧ p.toInt < 7) (s1 : gI s 1 (ix p) = 1) (e4 : gI s 4 (ix p) = r) (e5 : gI s 5 (ix p) = 1) (Nm : own_N m) (fr : ∀ c j, c ≠ 3 → c ≠ 6 → c ≠ 7 → c ≠ 9 → gI m c j = gI s c j) (ev : own_ev s m) (est : gI m 3 (ix p) = 0 ∨ gI m 3 (ix p) = 1) (g6 : ∀ w : Int32, w = 0 ∨ w = 1 → gI m 3 (ix p) ≠ w → (gI s 0 21).toInt ≤ own_ct (fun x => own_T s x (ix r - 1) 1 != -1 && own_T s x (ix r - 1) 1 != w) 7) (Q : Int32 → St → Prop) (h : ∀ v t, own_J t → own_ev s t → Q v t) : wpcI PP 48 cm48 11 44 [some (.ref 0), some (.int p), some (.int r), none, none, none, none] [] m Q := by
  obtain ⟨N, P⟩ := J
  obtain ⟨⟨f, rr, qq⟩, -⟩ := N
  have xp := ix_int hp.1
  have pp := (P (ix p) (by omega)).2 s1
  rw [e4, e5] at pp
  obtain ⟨hr, -, late⟩ := pp
  have xr := ix_int (i := r) (by omega)
  have i0 : ix (0 : Int32) = 0 := rfl
  have mT : ∀ q k h, own_T m q k h = own_T s q k h := fun q k h => fr 10 _ (by decide) (by decide) (by decide) (by decide)
  have m20 : gI m 0 20 = gI s 0 20 := fr 0 20 (by decide) (by decide) (by decide) (by decide)
  have m21 : gI m 0 21 = gI s 0 21 := fr 0 21 (by decide) (by decide) (by decide) (by decide)
  refine c48_44 _ _ _ _ ⟨fun e => ⟨hp, h _ _ ⟨own_N_cg Nm (fun j _ => own_nc (by decide)) (fun c j hc => own_nc (by omega)), fun q hq => ?_⟩ (own_ev_tr ev (own_ev_cg (own_nc (by decide)) (fun c j hc => own_nc (by omega))))⟩, fun e => c51_in _ _ _ _ ⟨hp, hp, hp, ?_⟩⟩
  · by_cases c : q = ix p
    · subst c
      unfold own_P
      rw [own_eq]
      exact ⟨fun z => absurd z (by decide), fun z => absurd z (by decide)⟩
    · refine own_P_cg (P q hq) (by rw [own_nc (by decide)]; exact m20) (by rw [own_ne (fun w => c w.2)]; exact fr 1 q (by decide) (by decide) (by decide) (by decide)) (by rw [own_nc (by decide)]; exact fr 4 q (by decide) (by decide) (by decide) (by decide)) (by rw [own_nc (by decide)]; exact fr 5 q (by decide) (by decide) (by decide) (by decide)) (fun k h _ _ => by unfold own_T; rw [own_nc (by decide)]; exact mT q k h)
  · have ne : r.toInt ≠ (gI s 0 20).toInt := fun w => e ((i32_eq).mpr (by rw [m20]; exact w))
    have r1 : (r + 1).toInt = r.toInt + 1 := by rw [i32_add] <;> simp <;> omega
    have xr1 := ix_int (i := r + 1) (by omega)
    generalize hu : sI (sI m 4 (ix p) (r + 1)) 5 (ix p) 0 = u
    have uc : ∀ c j, c ≠ 4 → c ≠ 5 → gI u c j = gI m c j := fun c j a b => by rw [← hu, own_nc b, own_nc a]
    have u4 : ∀ j, gI u 4 j = if j = ix p then r + 1 else gI m 4 j := fun j => by subst hu; simp [gI_sI]
    have u5 : ∀ j, gI u 5 j = if j = ix p then 0 else gI m 5 j := fun j => by subst hu; simp [gI_sI]
    clear hu
    have Nu : own_N u := own_N_cg Nm (fun j _ => uc 0 j (by decide) (by decide)) (fun c j hc => uc c j (by omega) (by omega))
    have u20 : gI u 0 20 = gI s 0 20 := by rw [uc 0 20 (by decide) (by decide), m20]
    have uT : ∀ q k h, own_T u q k h = own_T s q k h := fun q k h => by unfold own_T; rw [uc 10 _ (by decide) (by decide)]; exact mT q k h
    have old : own_T u (ix p) (ix (r + 1) - 1) 0 = -1 := by rw [uT]; exact late _ 0 (by omega) (by decide) (Or.inl (by omega))
    refine own_v36 u (by rw [u20]; omega) p (r + 1) 0 _ hp ⟨by omega, by rw [u20]; omega⟩ (Or.inl rfl) (est.imp id Or.inl) _ fun t t1 t2 t3 t4 => ?_
    rw [i0] at t2 t3 t4
    have Nt : own_N t := own_N_se Nu (ix p) (ix (r + 1) - 1) 0 (gI m 3 (ix p)) (by omega) (by omega) (by decide) (fun j hj => t1 0 j (by decide) (by decide)) (fun c j hc => t1 c j (by omega) (by omega)) t2 t3 old t4 (est.imp id Or.inl) (fun z => absurd z (by decide)) (fun z => absurd z (by decide)) (fun _ k' hk' w hw ne' => by
      have ek : k' = ix r - 1 := by omega
      subst ek
      have g := g6 w hw ne'
      rw [uc 0 21 (by decide) (by decide), m21]
      have : own_ct (fun x => own_T u x (ix r - 1) 1 != -1 && own_T u x (ix r - 1) 1 != w) 7 = own_ct (fun x => own_T s x (ix r - 1) 1 != -1 && own_T s x (ix r - 1) 1 != w) 7 := by
        congr 1
        funext x
        rw [uT]
      rw [this]; exact g) (fun _ z => by omega)
    refine h _ _ ⟨Nt, fun q hq => ?_⟩ (own_ev_tr ev (own_ev_tr (own_ev_cg (uc 0 20 (by decide) (by decide)) (fun c j hc => uc c j (by omega) (by omega))) (own_ev_cg (t1 0 20 (by decide) (by decide)) (fun c j hc => t1 c j (by omega) (by omega)))))
    have tT : ∀ k h, k < 8 → h < 2 → ¬ (q = ix p ∧ k = ix (r + 1) - 1 ∧ h = 0) → own_T t q k h = own_T s q k h := fun k h hk hh n => by
      unfold own_T
      rw [t2 _ (by omega)]
      exact uT q k h
    by_cases c : q = ix p
    · subst c
      unfold own_P
      rw [t1 0 20 (by decide) (by decide), u20, t1 1 _ (by decide) (by decide), uc 1 _ (by decide) (by decide), fr 1 _ (by decide) (by decide) (by decide) (by decide), s1, t1 4 _ (by decide) (by decide), u4, if_pos rfl, t1 5 _ (by decide) (by decide), u5, if_pos rfl]
      refine ⟨fun z => absurd z (by decide), fun _ => ⟨by omega, Or.inl rfl, fun k h hk hh l => ?_⟩⟩
      rw [i0] at l
      rw [tT k h hk hh (by omega)]
      exact late k h hk hh (by omega)
    · exact own_P_cg (P q hq) (by rw [t1 0 20 (by decide) (by decide), u20]) (by rw [t1 1 _ (by decide) (by decide), uc 1 _ (by decide) (by decide), fr 1 _ (by decide) (by decide) (by decide) (by decide)]) (by rw [t1 4 _ (by decide) (by decide), u4, if_neg c, fr 4 _ (by decide) (by decide) (by decide) (by decide)]) (by rw [t1 5 _ (by decide) (by decide), u5, if_neg c, fr 5 _ (by decide) (by decide) (by decide) (by decide)]) (fun k h hk hh => tT k h hk hh (by omega))

theorem own_coin (x : Int64) : Int64.toInt32 (Jvm.Free.XT.ushrL x 63) = 0 ∨ Int64.toInt32 (Jvm.Free.XT.ushrL x 63) = 1 := by
  have b : ∀ j, j < 32 → own_bt (Int64.toInt32 (Jvm.Free.XT.ushrL x 63)) j = own_bl x (63 + j) := fun j hj => by
    rw [own_bt_t32 _ _ hj, own_bl_ushr _ _ (by decide) (by decide)]; rfl
  have k1 : ∀ j : Fin 32, own_bt 1 j.val = decide (j.val = 0) := by decide
  by_cases c : own_bl x 63 = true
  · right
    apply own_bt_ext
    intro j hj
    rw [b j hj, k1 ⟨j, hj⟩]
    by_cases z : j = 0
    · subst z; simp [c]
    · rw [own_bl_hi _ _ (by omega)]; simp [z]
  · left
    apply own_bt_ext
    intro j hj
    rw [b j hj, own_bt_0]
    by_cases z : j = 0
    · subst z; simpa using c
    · rw [own_bl_hi _ _ (by omega)]
theorem own_v45 (s : St) (c0 c1 : Int32) (Q : Int32 → St → Prop) (h0 : 1 ≤ c0.toInt → Q 0 s) (h1 : 1 ≤ c1.toInt → Q 1 s) (hn : ¬ 1 ≤ c0.toInt → ¬ 1 ≤ c1.toInt → Q (-1) s) : calI PP 45 11 [.ref 0, .int c0, .int c1] s Q := by
  apply c45_in
  refine ⟨fun a => c45_12 _ _ _ ⟨fun b => hn (by rw [own_lt1] at a; omega) (by rw [own_lt1] at b; omega), fun b => h1 (by rw [own_lt1] at b; omega)⟩, fun a => ⟨fun l => c45_12 _ _ _ ⟨fun b => ?_, fun b => h1 (by rw [own_lt1] at b; omega)⟩, fun _ => h0 (by rw [own_lt1] at a; omega)⟩⟩
  rw [own_lt1] at a b
  rw [i32_lt] at l
  omega
/-- the end of a proposal phase -/
theorem own_v48 (s : St) (J : own_J s) (p r c0 c1 : Int32) (hp : 0 ≤ p.toInt ∧ p.toInt < 7) (s1 : gI s 1 (ix p) = 1) (e4 : gI s 4 (ix p) = r) (e5 : gI s 5 (ix p) = 1) (hq : (gI s 0 21).toInt ≤ own_ct (fun a => own_C s a (ix p) (ix r - 1) 1 == 2) 7) (h0 : c0.toInt = own_ct (fun a => own_C s a (ix p) (ix r - 1) 1 == 2 && own_T s a (ix r - 1) 1 == 0) 7) (h1 : c1.toInt = own_ct (fun a => own_C s a (ix p) (ix r - 1) 1 == 2 && own_T s a (ix r - 1) 1 == 1) 7) (Q : Int32 → St → Prop) (h : ∀ v t, own_J t → own_ev s t → Q v t) : calI PP 48 11 [.ref 0, .int p, .int r, .int c0, .int c1] s Q := by
  have JJ := J
  obtain ⟨N, P⟩ := JJ
  have NN := N
  obtain ⟨⟨f, rr, qq⟩, n1, n2, n4, n5, n6, n7, n8⟩ := NN
  have xp := ix_int hp.1
  have pp := (P (ix p) (by omega)).2 s1
  rw [e4] at pp
  obtain ⟨hr, -, -⟩ := pp
  have xr := ix_int (i := r) (by omega)
  have m0 := own_hc N (d := ix p) (k := ix r - 1) (h := 1) (by omega) (by omega) (by decide) 0
  have m1 := own_hc N (d := ix p) (k := ix r - 1) (h := 1) (by omega) (by omega) (by decide) 1
  -- where no held proposal says w
  have none' : ∀ w : Int32, own_ct (fun a => own_C s a (ix p) (ix r - 1) 1 == 2 && own_T s a (ix r - 1) 1 == w) 7 = 0 → (gI s 0 21).toInt ≤ own_ct (fun x => own_T s x (ix r - 1) 1 != -1 && own_T s x (ix r - 1) 1 != w) 7 := fun w z => by
    have sp := own_ct_sp (f := fun a => own_C s a (ix p) (ix r - 1) 1 == 2) (g := fun a => own_T s a (ix r - 1) 1 == w) 7
    have mo := own_ct_mono (f := fun a => own_C s a (ix p) (ix r - 1) 1 == 2 && !(own_T s a (ix r - 1) 1 == w)) (g := fun x => own_T s x (ix r - 1) 1 != -1 && own_T s x (ix r - 1) 1 != w) 7 fun c hc e => by
      simp at e
      have := n2 c (ix p) (ix r - 1) 1 hc (by omega) (by omega) (by decide) (Or.inr e.1)
      simp [this, e.2]
    omega
  -- not both values are proposed
  have uni : ∀ v w : Int32, (v = 0 ∨ v = 1) → (w = 0 ∨ w = 1) → v ≠ w → 1 ≤ own_ct (fun a => own_T s a (ix r - 1) 1 == v) 7 → 1 ≤ own_ct (fun a => own_T s a (ix r - 1) 1 == w) 7 → False := fun v w hv hw ne a b => by
    obtain ⟨x, hx, ex⟩ := own_ct_ex 7 a
    obtain ⟨y, hy, ey⟩ := own_ct_ex 7 b
    have a4 := n4 x (ix r - 1) v hx (by omega) hv (by simpa using ex)
    have b4 := n4 y (ix r - 1) w hy (by omega) hw (by simpa using ey)
    have dj := own_ct_dj (f := fun z => own_T s z (ix r - 1) 0 == v) (g := fun z => own_T s z (ix r - 1) 0 == w) 7 fun c _ p q => by
      simp at p q
      exact ne (by rw [← p, ← q])
    omega
  have go : ∀ v cv : Int32, (v = 0 ∨ v = 1) → cv.toInt = own_ct (fun a => own_C s a (ix p) (ix r - 1) 1 == 2 && own_T s a (ix r - 1) 1 == v) 7 → 1 ≤ cv.toInt → calV PP 49 11 [.ref 0, .int p, .int r, .int v, .int cv] s (fun m => wpcI PP 48 cm48 11 44 [some (.ref 0), some (.int p), some (.int r), none, none, none, none] [] m Q) := fun v cv hv ec c1' => by
    have mv := own_hc N (d := ix p) (k := ix r - 1) (h := 1) (by omega) (by omega) (by decide) v
    have g6 : ∀ w : Int32, w = 0 ∨ w = 1 → v ≠ w → (gI s 0 21).toInt ≤ own_ct (fun x => own_T s x (ix r - 1) 1 != -1 && own_T s x (ix r - 1) 1 != w) 7 := fun w hw ne => by
      refine none' w ?_
      have mw := own_hc N (d := ix p) (k := ix r - 1) (h := 1) (by omega) (by omega) (by decide) w
      refine Classical.byContradiction fun z => uni v w hv hw ne (by omega) (by omega)
    have fin : ∀ m, own_N m → (∀ c j, c ≠ 6 → c ≠ 7 → gI m c j = gI s c j) → own_ev s m → wpcV PP 49 cm49 11 35 [some (.ref 0), some (.int p), none, some (.int v), none] [] m (fun m => wpcI PP 48 cm48 11 44 [some (.ref 0), some (.int p), some (.int r), none, none, none, none] [] m Q) := fun m Nm fr ev => c49_35 _ _ _ _ ⟨hp, own_v48t s _ J p r hp s1 e4 e5 (own_N_cg Nm (fun j _ => own_nc (by decide)) (fun c j hc => own_nc (by omega))) (fun c j a b d _ => by rw [own_nc a]; exact fr c j b d) (own_ev_tr ev (own_ev_cg (own_nc (by decide)) (fun c j hc => own_nc (by omega)))) (by rw [own_eq]; exact hv) (fun w hw ne => by rw [own_eq] at ne; exact g6 w hw ne) Q h⟩
    have f1 : (gI s 0 19 + 1).toInt = (gI s 0 19).toInt + 1 := by rw [i32_add] <;> simp <;> omega
    apply c49_in
    refine ⟨hp, fun d => ⟨fun _ => fin s N (fun _ _ _ _ => rfl) (own_ev_rf s), fun l => ⟨hp, hp, fin _ (own_N_de N (ix p) v r (fun j _ => by rw [own_nc (by decide), own_nc (by decide)]) (fun c j hc => by rw [own_nc (by omega), own_nc (by omega)]) (fun j hj => ⟨by rw [own_nc (by decide), own_ne (fun w => hj w.2)], by rw [own_ne (fun w => hj w.2), own_nc (by decide)]⟩) (by rw [own_nc (by decide), own_eq]) own_eq hv hr ?_) (fun c j a b => by rw [own_nc b, own_nc a]) ⟨by rw [own_nc (by decide), own_nc (by decide)], fun q hq nd => ?_⟩⟩⟩, fun _ => fin s N (fun _ _ _ _ => rfl) (own_ev_rf s)⟩
    · rw [i32_lt, f1] at l
      omega
    · have ne : q ≠ ix p := fun w => nd (by rw [w]; exact d)
      exact ⟨by rw [own_nc (by decide), own_ne (fun w => ne w.2)], by rw [own_ne (fun w => ne w.2), own_nc (by decide)]⟩
  apply c48_in
  refine own_v45 s c0 c1 _ (fun a => ⟨fun z => absurd z (by decide), fun _ => c46_in _ _ _ _ _ ⟨fun _ => go 0 c0 (Or.inl rfl) h0 a, fun z => absurd rfl z⟩⟩) (fun a => ⟨fun z => absurd z (by decide), fun _ => c46_in _ _ _ _ _ ⟨fun z => absurd z (by decide), fun _ => go 1 c1 (Or.inr rfl) h1 a⟩⟩) (fun a b => ⟨fun _ => c50_in _ _ _ ⟨hp, hp, hp, hp, hp, ?_⟩, fun z => absurd rfl z⟩)
  generalize ((gL s 8 (ix p) * 6364136223846793005) + 1442695040888963407) = X
  have z0 : own_ct (fun a => own_C s a (ix p) (ix r - 1) 1 == 2 && own_T s a (ix r - 1) 1 == 0) 7 = 0 := by omega
  have z1 : own_ct (fun a => own_C s a (ix p) (ix r - 1) 1 == 2 && own_T s a (ix r - 1) 1 == 1) 7 = 0 := by omega
  have fr : ∀ c j, c ≠ 3 → c ≠ 9 → gI (sI (sI (sL s 8 (ix p) X) 3 (ix p) (Int64.toInt32 (Jvm.Free.XT.ushrL X 63))) 9 (ix p) (gI s 9 (ix p) + 1)) c j = gI s c j := fun c j a b => by rw [own_nc b, own_nc a, gI_sL]
  have e3 : gI (sI (sI (sL s 8 (ix p) X) 3 (ix p) (Int64.toInt32 (Jvm.Free.XT.ushrL X 63))) 9 (ix p) (gI s 9 (ix p) + 1)) 3 (ix p) = Int64.toInt32 (Jvm.Free.XT.ushrL X 63) := by rw [own_nc (by decide), own_eq]
  exact own_v48t s _ J p r hp s1 e4 e5 (own_N_cg N (fun j _ => fr 0 j (by decide) (by decide)) (fun c j hc => fr c j (by omega) (by omega))) (fun c j a _ _ b => fr c j a b) (own_ev_cg (fr 0 20 (by decide) (by decide)) (fun c j hc => fr c j (by omega) (by omega))) (by rw [e3]; exact own_coin X) (fun w hw _ => by
    rcases hw with q | q
    · subst q; exact none' 0 z0
    · subst q; exact none' 1 z1) Q h
/-- stepOnce, step -/
theorem own_v43 (s : St) (J : own_J s) (p : Int32) (hp : 0 ≤ p.toInt ∧ p.toInt < 7) (Q : Int32 → St → Prop) (h : ∀ v t, own_J t → own_ev s t → Q v t) : calI PP 43 11 [.ref 0, .int p] s Q := by
  have xp := ix_int hp.1
  have nil : ∀ v, Q v s := fun v => h v s J (own_ev_rf s)
  apply c43_in
  refine ⟨hp, fun s1 => ⟨hp, hp, ?_⟩, fun _ => nil _⟩
  have R8 : (gI s 0 20).toInt ≤ 8 := J.1.1.2.1.2
  obtain ⟨hr, hh, -⟩ := (J.2 (ix p) (by omega)).2 s1
  refine own_v22 s _ _ (fun _ _ => ⟨fun q => absurd q (by decide), fun _ => own_v23 s _ hh _ ⟨fun q => absurd q (by decide), fun _ => own_v40 s R8 p _ _ hp hr hh _ fun c hc => ⟨fun _ => nil _, fun l => own_v41 s R8 p _ _ 0 hp hr hh _ fun c0 h0 => own_v41 s R8 p _ _ 1 hp hr hh _ fun c1 h1 => ⟨fun z => ?_, fun z => ?_⟩⟩⟩⟩) (fun q => absurd hr q)
  · rw [i32_lt, hc] at l
    rw [z] at l h0 h1
    have i0 : ix (0 : Int32) = 0 := rfl
    rw [i0] at l h0 h1
    exact own_v47 s J p _ c0 c1 hp s1 rfl z (by omega) h0 h1 _ (fun t Jt et => h _ t Jt et)
  · have z1 := hh.resolve_left z
    rw [i32_lt, hc] at l
    rw [z1] at l h0 h1
    have i1 : ix (1 : Int32) = 1 := rfl
    rw [i1] at l h0 h1
    exact own_v48 s J p _ c0 c1 hp s1 rfl z1 (by omega) h0 h1 _ (fun v t Jt et => h _ t Jt et)
theorem own_v42 (s : St) (J : own_J s) (p : Int32) (hp : 0 ≤ p.toInt ∧ p.toInt < 7) (Q : St → Prop) (h : ∀ t, own_J t → own_ev s t → Q t) : calV PP 42 11 [.ref 0, .int p] s Q := by
  apply c42_in
  refine own_v21 s p hp _ ⟨fun q => absurd q (by decide), fun _ => ?_⟩
  have R := J.1.1.2.1
  have e1 : (2 * gI s 0 20).toInt = 2 * (gI s 0 20).toInt := i32_mul (x := 2) (y := gI s 0 20) (by show (-2147483648 : Int) ≤ 2 * (gI s 0 20).toInt; omega) (by show 2 * (gI s 0 20).toInt < (2147483648 : Int); omega)
  have e2 : (2 * gI s 0 20 + 2).toInt = 2 * (gI s 0 20).toInt + 2 := by rw [i32_add (by rw [e1]; show (-2147483648 : Int) ≤ _ + (2 : Int); omega) (by rw [e1]; show _ + (2 : Int) < (2147483648 : Int); omega), e1]; rfl
  refine loop_up (F := fun i => ∀ u, own_J u → own_ev s u → wpcV PP 42 cm42 11 20 [some (.ref 0), some (.int p), some (.int (2 * gI s 0 20 + 2)), some (.int i)] [] u Q) (2 * (gI s 0 20).toInt + 2) (by omega) (fun i i0 i1 e ih u Ju eu => c42_20 _ _ _ _ _ ⟨fun _ => own_v43 u Ju p hp _ fun v t Jt et => ⟨fun _ => h t Jt (own_ev_tr eu et), fun _ => ih t Jt (own_ev_tr eu et)⟩, fun q => absurd (by rw [i32_lt, e2]; exact i1) q⟩) (fun i hi u Ju eu => c42_20 _ _ _ _ _ ⟨fun q => absurd q (by rw [i32_lt, e2]; omega), fun _ => h u Ju eu⟩) 0 (by decide) (by show (0 : Int) ≤ _; omega) s J (own_ev_rf s)
/-- deliver -/
theorem own_v39 (s : St) (J : own_J s) (a d r ph : Int32) (ha : 0 ≤ a.toInt ∧ a.toInt < 7) (hd : 0 ≤ d.toInt ∧ d.toInt < 7) (hh : ph = 0 ∨ ph = 1) (Q : Int32 → St → Prop) (h : ∀ v t, own_J t → own_ev s t → Q v t) : calI PP 39 11 [.ref 0, .int a, .int d, .int r, .int ph] s Q := by
  have nil : ∀ v, Q v s := fun v => h v s J (own_ev_rf s)
  have R8 : (gI s 0 20).toInt ≤ 8 := J.1.1.2.1.2
  apply c39_in
  refine ⟨hd, fun _ => nil _, fun _ => own_v34 s R8 a d r ph ha hd hh _ (fun r1 r2 => ⟨fun e => own_v35 s R8 a d r ph 2 ha hd ⟨r1, r2⟩ hh _ ?_, fun _ => nil _⟩) (fun _ => ⟨fun z => absurd z (by decide), fun _ => nil _⟩)⟩
  have J1 : own_J (sI s 11 (16 * (7 * ix a + ix d) + 2 * (ix r - 1) + ix ph) 2) := ⟨own_N_cp J.1 (fun j _ => own_nc (by decide)) (fun c j hc => own_nc (by omega)) (fun j w => by
    rw [gI_sI] at w
    split at w
    · rename_i z
      rw [z.2]; exact Or.inl e
    · exact w), fun q hq => own_P_cg (J.2 q hq) (own_nc (by decide)) (own_nc (by decide)) (own_nc (by decide)) (own_nc (by decide)) (fun k h _ _ => own_nc (by decide))⟩
  exact own_v42 _ J1 d hd _ fun t Jt et => h _ t Jt (own_ev_tr (own_ev_cg (own_nc (by decide)) (fun c j hc => own_nc (by omega))) et)
theorem own_v26 (s : St) (m i : Int32) (Q : Int32 → St → Prop) (h : ∀ v, Q v s) : calI PP 26 11 [.ref 0, .int m, .int i] s Q := c26_in _ _ _ _ ⟨fun _ => h _, fun _ => h _⟩
theorem own_v38 (s : St) (J : own_J s) (m d r ph : Int32) (hd : 0 ≤ d.toInt ∧ d.toInt < 7) (hh : ph = 0 ∨ ph = 1) (Q : Int32 → St → Prop) (h : ∀ v t, own_J t → own_ev s t → Q v t) : calI PP 38 11 [.ref 0, .int m, .int d, .int r, .int ph] s Q := by
  apply c38_in
  exact loop_up (F := fun i => ∀ (x : Int32) u, own_J u → own_ev s u → wpcI PP 38 cm38 11 6 [some (.ref 0), some (.int m), some (.int d), some (.int r), some (.int ph), some (.int x), some (.int i)] [] u Q) 7 (by decide) (fun i i0 i1 e ih x u Ju eu => c38_6 _ _ _ _ _ _ _ _ ⟨fun _ => own_v26 u _ _ _ fun v => ⟨fun _ => c38_39 _ _ _ _ _ _ _ _ (ih x u Ju eu), fun _ => own_v39 u Ju i d r ph ⟨i0, i1⟩ hd hh _ fun v t Jt et m _ => c38_39 _ _ _ _ _ _ _ _ (ih m t Jt (own_ev_tr eu et))⟩, fun q => absurd (by rw [own_lt7]; exact i1) q⟩) (fun i hi x u Ju eu => c38_6 _ _ _ _ _ _ _ _ ⟨fun q => absurd q (by rw [own_lt7]; omega), fun _ => h x u Ju eu⟩) 0 (by decide) (by decide) 0 s J (own_ev_rf s)
theorem own_v3 (s : St) (J : own_J s) (m k r ph : Int32) (hh : ph = 0 ∨ ph = 1) (Q : Int32 → St → Prop) (h : ∀ v t, own_J t → own_ev s t → Q v t) : calI PP 3 11 [.ref 0, .int m, .int k, .int r, .int ph] s Q := by
  apply c3_in
  refine own_v22 s r _ (fun _ _ => ⟨fun q => absurd q (by decide), fun _ => own_v23 s ph hh _ ⟨fun q => absurd q (by decide), fun _ => ?_⟩⟩) (fun _ => ⟨fun _ => h _ s J (own_ev_rf s), fun q => absurd rfl q⟩)
  exact loop_up (F := fun i => ∀ (x : Int32) u, own_J u → own_ev s u → wpcI PP 3 cm3 11 27 [some (.ref 0), some (.int m), some (.int k), some (.int r), some (.int ph), some (.int x), some (.int i)] [] u Q) 7 (by decide) (fun i i0 i1 e ih x u Ju eu => c3_27 _ _ _ _ _ _ _ _ ⟨fun _ => own_v26 u _ _ _ fun v => ⟨fun _ => c3_59 _ _ _ _ _ _ _ _ (ih x u Ju eu), fun _ => own_v38 u Ju m i r ph ⟨i0, i1⟩ hh _ fun v t Jt et => c3_59 _ _ _ _ _ _ _ _ (ih _ t Jt (own_ev_tr eu et))⟩, fun q => absurd (by rw [own_lt7]; exact i1) q⟩) (fun i hi x u Ju eu => c3_27 _ _ _ _ _ _ _ _ ⟨fun q => absurd q (by rw [own_lt7]; omega), fun _ => h x u Ju eu⟩) 0 (by decide) (by decide) 0 s J (own_ev_rf s)
/-- crash -/
theorem own_gt8 {x : Int32} : (8 : Int32) < x ↔ 8 < x.toInt := i32_lt
theorem own_v37 (s : St) (J : own_J s) (a d : Int32) (ha : 0 ≤ a.toInt ∧ a.toInt < 7) (hd : 0 ≤ d.toInt ∧ d.toInt < 7) (Q : St → Prop) (h : ∀ t, own_J t → own_ev s t → Q t) : calV PP 37 11 [.ref 0, .int a, .int d] s Q := by
  apply c37_in
  refine loop_up (F := fun i => 1 ≤ i.toInt → ∀ u, own_J u → own_ev s u → wpcV PP 37 cm37 11 2 [some (.ref 0), some (.int a), some (.int d), some (.int i), none] [] u Q) 9 (by decide) (fun i i0 i1 e ih i2 u Ju eu => c37_2 _ _ _ _ _ ⟨fun q => absurd q (by rw [own_gt8]; omega), fun _ => ?_⟩) (fun i hi _ u Ju eu => c37_2 _ _ _ _ _ ⟨fun _ => h u Ju eu, fun q => absurd (by rw [own_gt8]; omega) q⟩) 1 (by decide) (by decide) (by decide) s J (own_ev_rf s)
  refine loop_up (F := fun k => ∀ u, own_J u → own_ev s u → wpcV PP 37 cm37 11 11 [some (.ref 0), some (.int a), some (.int d), some (.int i), some (.int k)] [] u Q) 2 (by decide) (fun k k0 k1 e2 ih2 u Ju eu => ?_) (fun k hk u Ju eu => c37_11 _ _ _ _ _ _ ⟨fun q => absurd q (by rw [own_lt2]; omega), fun _ => ih (by omega) u Ju eu⟩) 0 (by decide) (by decide) u Ju eu
  have R8 : (gI u 0 20).toInt ≤ 8 := Ju.1.1.2.1.2
  have hh : k = 0 ∨ k = 1 := by
    by_cases c : k.toInt = 0
    · exact Or.inl ((i32_eq).mpr c)
    · exact Or.inr ((i32_eq).mpr (by show _ = (1 : Int); omega))
  have nx := c37_40 _ _ _ _ _ _ (ih2 u Ju eu)
  refine c37_11 _ _ _ _ _ _ ⟨fun _ => own_v34 u R8 a d i k ha hd hh _ (fun r1 r2 => ⟨fun c => own_v35 u R8 a d i k 3 ha hd ⟨r1, r2⟩ hh _ (c37_40 _ _ _ _ _ _ (ih2 _ ⟨own_N_cp Ju.1 (fun j _ => own_nc (by decide)) (fun c j hc => own_nc (by omega)) (fun j w => ?_), fun q hq => own_P_cg (Ju.2 q hq) (own_nc (by decide)) (own_nc (by decide)) (own_nc (by decide)) (own_nc (by decide)) (fun k h _ _ => own_nc (by decide))⟩ (own_ev_tr eu (own_ev_cg (own_nc (by decide)) (fun c j hc => own_nc (by omega)))))), fun _ => nx⟩) (fun _ => ⟨fun z => absurd z (by decide), fun _ => nx⟩), fun q => absurd (by rw [own_lt2]; exact k1) q⟩
  rw [gI_sI] at w
  split at w
  · rcases w with w | w <;> exact absurd w (by decide)
  · exact w
theorem own_v4 (s : St) (J : own_J s) (p m : Int32) (Q : Int32 → St → Prop) (h : ∀ v t, own_J t → own_ev s t → Q v t) : calI PP 4 11 [.ref 0, .int p, .int m] s Q := by
  have nil : ∀ v, Q v s := fun v => h v s J (own_ev_rf s)
  apply c4_in
  refine own_21 s p _ (fun p0 p7 => ⟨fun q => absurd q (by decide), fun _ => ⟨⟨p0, p7⟩, fun _ => nil _, fun _ => ⟨fun _ => ⟨⟨p0, p7⟩, ?_⟩, fun _ => nil _⟩⟩⟩) (fun _ => ⟨fun _ => nil _, fun q => absurd rfl q⟩)
  have J1 : own_J (sI (sI s 1 (ix p) 3) 0 22 (gI s 0 22 + 1)) := ⟨own_N_cg J.1 (fun j hj => by rw [own_ne (by omega), own_nc (by decide)]) (fun c j hc => by rw [own_nc (by omega), own_nc (by omega)]), fun q hq => by
    have P := J.2 q hq
    by_cases e : q = ix p
    · subst e
      unfold own_P
      have : gI (sI (sI s 1 (ix p) 3) 0 22 (gI s 0 22 + 1)) 1 (ix p) = 3 := by rw [own_nc (by decide), own_eq]
      rw [this]
      exact ⟨fun z => absurd z (by decide), fun z => absurd z (by decide)⟩
    · exact own_P_cg P (by rw [own_ne (by decide), own_nc (by decide)]) (by rw [own_nc (by decide), own_ne (fun w => e w.2)]) (by rw [own_nc (by decide), own_nc (by decide)]) (by rw [own_nc (by decide), own_nc (by decide)]) (fun k h _ _ => by unfold own_T; rw [own_nc (by decide), own_nc (by decide)])⟩
  have e1 : own_ev s (sI (sI s 1 (ix p) 3) 0 22 (gI s 0 22 + 1)) := own_ev_cg (by rw [own_ne (by decide), own_nc (by decide)]) (fun c j hc => by rw [own_nc (by omega), own_nc (by omega)])
  exact loop_up (F := fun i => ∀ u, own_J u → own_ev s u → wpcI PP 4 cm4 11 54 [some (.ref 0), some (.int p), some (.int m), some (.int i)] [] u Q) 7 (by decide) (fun i i0 i1 e ih u Ju eu => c4_54 _ _ _ _ _ ⟨fun _ => own_v26 u _ _ _ fun v => ⟨fun _ => own_v37 u Ju p i ⟨p0, p7⟩ ⟨i0, i1⟩ _ fun t Jt et => c4_75 _ _ _ _ _ (ih t Jt (own_ev_tr eu et)), fun _ => c4_75 _ _ _ _ _ (ih u Ju eu)⟩, fun q => absurd (by rw [own_lt7]; exact i1) q⟩) (fun i hi u Ju eu => c4_54 _ _ _ _ _ ⟨fun q => absurd q (by rw [own_lt7]; omega), fun _ => h _ u Ju eu⟩) 0 (by decide) (by decide) _ J1 e1
/-- setInput -/
theorem own_v2 (s : St) (J : own_J s) (p v a b : Int32) (hv : v = 0 ∨ v = 1) (Q : Int32 → St → Prop) (h : ∀ v t, own_J t → own_ev s t → Q v t) : calI PP 2 11 [.ref 0, .int p, .int v, .int a, .int b] s Q := by
  have nil : ∀ v, Q v s := fun v => h v s J (own_ev_rf s)
  have v24 : ∀ Q : Int32 → St → Prop, Q 1 s → calI PP 24 11 [.ref 0, .int v] s Q := fun Q hq => by
    apply c24_in
    exact ⟨fun _ => hq, fun a => ⟨fun _ => hq, fun b => absurd (hv.resolve_left a) b⟩⟩
  apply c2_in
  refine own_21 s p _ (fun p0 p7 => ⟨fun q => absurd q (by decide), fun _ => v24 _ ⟨fun q => absurd q (by decide), fun _ => ⟨⟨p0, p7⟩, fun z => ⟨⟨p0, p7⟩, ⟨p0, p7⟩, c28_in _ _ _ _ ⟨⟨p0, p7⟩, ⟨p0, p7⟩, ⟨p0, p7⟩, ⟨p0, p7⟩, ?_⟩⟩, fun _ => nil _⟩⟩⟩) (fun _ => ⟨fun _ => nil _, fun q => absurd rfl q⟩)
  generalize ((Int32.toInt64 a) <<< (((32 : Int32)).toInt64 &&& 63)) ||| ((Int32.toInt64 b) &&& 4294967295) = X
  have xp := ix_int p0
  have R := J.1.1.2.1
  have pz := (J.2 (ix p) (by omega)).1 z
  generalize hu : sI (sI (sI (sL (sI (sI s 2 (ix p) v) 3 (ix p) v) 8 (ix p) X) 1 (ix p) 1) 4 (ix p) 1) 5 (ix p) 0 = u
  have uc : ∀ c j, c ≠ 1 → c ≠ 2 → c ≠ 3 → c ≠ 4 → c ≠ 5 → gI u c j = gI s c j := fun c j a1 a2 a3 a4 a5 => by rw [← hu, own_nc a5, own_nc a4, own_nc a1, gI_sL, own_nc a3, own_nc a2]
  have u1 : ∀ j, gI u 1 j = if j = ix p then 1 else gI s 1 j := fun j => by subst hu; simp [gI_sI, gI_sL]
  have u2 : ∀ j, gI u 2 j = if j = ix p then v else gI s 2 j := fun j => by subst hu; simp [gI_sI, gI_sL]
  have u4 : ∀ j, gI u 4 j = if j = ix p then 1 else gI s 4 j := fun j => by subst hu; simp [gI_sI, gI_sL]
  have u5 : ∀ j, gI u 5 j = if j = ix p then 0 else gI s 5 j := fun j => by subst hu; simp [gI_sI, gI_sL]
  clear hu
  have Nu : own_N u := own_N_in J.1 (ix p) (fun j _ => uc 0 j (by decide) (by decide) (by decide) (by decide) (by decide)) (fun c j hc => uc c j (by omega) (by omega) (by omega) (by omega) (by omega)) (fun j hj => by rw [u2, if_neg hj]) (pz 0 0 (by decide) (by decide))
  have u20 : gI u 0 20 = gI s 0 20 := uc 0 20 (by decide) (by decide) (by decide) (by decide) (by decide)
  have uT : ∀ q k h, own_T u q k h = own_T s q k h := fun q k h => uc 10 _ (by decide) (by decide) (by decide) (by decide) (by decide)
  have i0 : ix (0 : Int32) = 0 := rfl
  have i1 : ix (1 : Int32) = 1 := rfl
  refine own_v36 u (by rw [u20]; omega) p 1 0 v ⟨p0, p7⟩ ⟨by decide, by rw [u20]; show (1 : Int) ≤ _; omega⟩ (Or.inl rfl) (hv.imp id Or.inl) _ fun t t1 t2 t3 t4 => ?_
  rw [i0, i1] at t2 t3 t4
  have Nt : own_N t := own_N_se Nu (ix p) 0 0 v (by omega) (by decide) (by decide) (fun j hj => t1 0 j (by decide) (by decide)) (fun c j hc => t1 c j (by omega) (by omega)) t2 t3 (by rw [uT]; exact pz 0 0 (by decide) (by decide)) t4 (hv.imp id Or.inl) (fun z => absurd z (by decide)) (fun z => absurd z (by decide)) (fun _ k' hk => by omega) (fun _ _ => by rw [u2, if_pos rfl])
  have Jt : own_J t := ⟨Nt, fun q hq => by
    have tT : ∀ k h, k < 8 → h < 2 → ¬ (q = ix p ∧ k = 0 ∧ h = 0) → own_T t q k h = own_T s q k h := fun k h hk hh n => by
      unfold own_T
      rw [t2 _ (by omega)]
      exact uT q k h
    by_cases c : q = ix p
    · subst c
      unfold own_P
      rw [t1 0 20 (by decide) (by decide), u20, t1 1 _ (by decide) (by decide), u1, if_pos rfl, t1 4 _ (by decide) (by decide), u4, if_pos rfl, t1 5 _ (by decide) (by decide), u5, if_pos rfl, i0, i1]
      refine ⟨fun z => absurd z (by decide), fun _ => ⟨⟨by decide, by show (1 : Int) ≤ _; omega⟩, Or.inl rfl, fun k h hk hh l => ?_⟩⟩
      rw [tT k h hk hh (by omega)]
      exact pz k h hk hh
    · exact own_P_cg (J.2 q hq) (by rw [t1 0 20 (by decide) (by decide), u20]) (by rw [t1 1 _ (by decide) (by decide), u1, if_neg c]) (by rw [t1 4 _ (by decide) (by decide), u4, if_neg c]) (by rw [t1 5 _ (by decide) (by decide), u5, if_neg c]) (fun k h hk hh => tT k h hk hh (by omega))⟩
  have et : own_ev s t := own_ev_tr (own_ev_cg u20 (fun c j hc => uc c j (by omega) (by omega) (by omega) (by omega) (by omega))) (own_ev_cg (t1 0 20 (by decide) (by decide)) (fun c j hc => t1 c j (by omega) (by omega)))
  exact own_v42 t Jt p ⟨p0, p7⟩ _ fun w Jw ew => h _ w Jw (own_ev_tr et ew)

/-! the law's memory -/
def own_V (d r : Int32) : Int64 := Int32.toInt64 ((1 ||| (d <<< ((1 : Int32) &&& 31))) ||| (r <<< ((2 : Int32) &&& 31)))
theorem own_V0 : ∀ d : Fin 2, ∀ r : Fin 9, own_V (Int32.ofNat d.val) (Int32.ofNat r.val) &&& 1 ≠ 0 ∧ Int64.toInt32 (Jvm.Free.XT.ushrL (own_V (Int32.ofNat d.val) (Int32.ofNat r.val)) 1 &&& 1) = Int32.ofNat d.val ∧ Int64.toInt32 (Jvm.Free.XT.ushrL (own_V (Int32.ofNat d.val) (Int32.ofNat r.val)) 2 &&& 15) = Int32.ofNat r.val ∧ (0 ≤ ((1 ||| (Int32.ofNat d.val <<< ((1 : Int32) &&& 31))) ||| (Int32.ofNat r.val <<< ((2 : Int32) &&& 31))).toInt ∧ ((1 ||| (Int32.ofNat d.val <<< ((1 : Int32) &&& 31))) ||| (Int32.ofNat r.val <<< ((2 : Int32) &&& 31))).toInt < 64) := by decide +kernel
theorem own_Vx {d r : Int32} (hd : d = 0 ∨ d = 1) (hr : 1 ≤ r.toInt ∧ r.toInt ≤ 8) : own_V d r &&& 1 ≠ 0 ∧ Int64.toInt32 (Jvm.Free.XT.ushrL (own_V d r) 1 &&& 1) = d ∧ Int64.toInt32 (Jvm.Free.XT.ushrL (own_V d r) 2 &&& 15) = r ∧ ∀ j, 6 ≤ j → own_bl (own_V d r) j = false := by
  have xr := ix_int (i := r) (by omega)
  have er := own_i32 r (by omega)
  have k : ∀ d : Fin 2, _ := fun d => own_V0 d ⟨ix r, by omega⟩
  have go : ∀ d : Fin 2, own_V (Int32.ofNat d.val) r &&& 1 ≠ 0 ∧ Int64.toInt32 (Jvm.Free.XT.ushrL (own_V (Int32.ofNat d.val) r) 1 &&& 1) = Int32.ofNat d.val ∧ Int64.toInt32 (Jvm.Free.XT.ushrL (own_V (Int32.ofNat d.val) r) 2 &&& 15) = r ∧ ∀ j, 6 ≤ j → own_bl (own_V (Int32.ofNat d.val) r) j = false := fun d => by
    have w := k d
    simp only at w
    rw [← er] at w
    refine ⟨w.1, w.2.1, w.2.2.1, fun j hj => ?_⟩
    unfold own_V
    rw [own_bl_i64 _ w.2.2.2.1]
    generalize (1 ||| (Int32.ofNat d.val <<< ((1 : Int32) &&& 31))) ||| (r <<< ((2 : Int32) &&& 31)) = v at w
    have hv := w.2.2.2
    by_cases l : j < 32
    · have m := Jvm.Kit.i32_mask v 63 (k := 6) (by decide) (by decide)
      have p : ((2 : Int) ^ 6) = 64 := by decide
      have e : v &&& 63 = v := (i32_eq).mpr (by rw [m, p]; omega)
      have kk : ∀ j : Fin 32, own_bt 63 j.val = decide (j.val < 6) := by decide
      have b := own_bt_and v 63 j
      rw [e, kk ⟨j, l⟩] at b
      have : ¬ j < 6 := by omega
      rw [b]; simp [this]
    · exact own_bt_hi _ _ (by omega)
  rcases hd with q | q
  · subst q; exact go 0
  · subst q; exact go 1
def own_Me (x : Int64) (s : St) : Prop := (∀ p : Int32, 0 ≤ p.toInt → p.toInt < 7 → own_z x (6 * p) = 0 ∨ (gI s 6 (ix p) ≠ -1 ∧ own_z x (6 * p) = own_V (gI s 6 (ix p)) (gI s 7 (ix p)))) ∧ ∀ j, 42 ≤ j → own_bl x j = false
theorem own_Me_ev {x : Int64} {s t : St} (M : own_Me x s) (e : own_ev s t) : own_Me x t := ⟨fun p p0 p7 => by
  have xp := ix_int p0
  rcases M.1 p p0 p7 with q | q
  · exact Or.inl q
  · have w := e.2 (ix p) (by omega) q.1
    exact Or.inr ⟨by rw [w.1]; exact q.1, by rw [w.1, w.2]; exact q.2⟩, M.2⟩
theorem own_cm0 (y : Int64) : Jvm.Free.XT.cmpL y 0 = 0 ↔ y = 0 := by
  unfold Jvm.Free.XT.cmpL
  constructor
  · intro h
    by_cases a : (0 : Int64) < y
    · rw [if_pos a] at h; exact absurd h (by decide)
    · rw [if_neg a] at h
      by_cases b : y = 0
      · exact b
      · rw [if_neg b] at h; exact absurd h (by decide)
  · intro h
    subst h
    rfl
theorem own_nn {x : Int64} (h : own_bl x 63 = false) : ¬ Jvm.Free.XT.cmpL x 0 < 0 := by
  have m : x.toBitVec.msb = false := by rw [BitVec.msb_eq_getLsbD_last]; exact h
  have p : 0 ≤ x.toInt := by
    show 0 ≤ x.toBitVec.toInt
    rw [BitVec.toInt_eq_msb_cond, m]
    simp
  unfold Jvm.Free.XT.cmpL
  by_cases a : (0 : Int64) < x
  · rw [if_pos a]; decide
  · by_cases b : x = 0
    · rw [if_neg a, if_pos b]; decide
    · exfalso
      have z : (0 : Int64).toInt = 0 := by decide
      rw [Int64.lt_iff_toInt_lt, z] at a
      exact b (Int64.toInt_inj.mp (by rw [z]; omega))
theorem own_q6 {p : Int32} (h : 0 ≤ p.toInt ∧ p.toInt < 7) : (6 * p).toInt = 6 * p.toInt := i32_mul (x := 6) (y := p) (by show (-2147483648 : Int) ≤ 6 * p.toInt; omega) (by show 6 * p.toInt < (2147483648 : Int); omega)
/-- inputOf -/
theorem own_c9 (s : St) (q : Int32) (hq : 0 ≤ q.toInt ∧ q.toInt < 7) (Q : Int32 → St → Prop) (h : Q (gI s 2 (ix q)) s) : calI PP 9 11 [.ref 0, .int q] s Q := by
  apply c9_in
  refine own_v21 s q hq _ ⟨fun z => absurd z (by decide), fun _ => c27_in _ _ _ ⟨hq, fun e => ⟨fun _ => by rw [e] at h; exact h, fun z => absurd rfl z⟩, fun _ => ⟨fun z => absurd z (by decide), fun _ => ⟨hq, h⟩⟩⟩⟩
/-- check -/
theorem own_chk (N : Nat) (sg : Nat → Int32) (s : St) (J : own_J s) (x : Int64) (M : own_Me x s) (R : Int32) (eR : gI s 0 20 = R) (Q : Int64 → Wd → Prop) (h : ∀ y, own_Me y s → Q y (W1 s)) : lalL PP QQ (some (N, sg)) 4 [.ref 1, .long x, .int R] (W1 s) Q := by
  have Nn := J.1
  have R8 := Nn.1.2.1
  apply l4r1W1_in
  refine loop_up (F := fun i => ∀ (x : Int64) (g : Int32), own_Me x s → (g = -1 ∨ ∃ q, q < 7 ∧ gI s 6 q ≠ -1 ∧ g = gI s 6 q) → wplL PP QQ (some (N, sg)) 4 lm4 6 [some (.ref 1), some (.long x), none, some (.int R), some (.int g), some (.int i), none, none, none, none, none, none, none] [] (W1 s) Q) 7 (by decide) (fun i i0 i1 e ih x g M hg => ?_) (fun i hi x g M hg => l4r1W1_6 _ _ _ _ _ _ _ _ ⟨fun z => absurd z (by rw [own_lt7]; omega), fun _ => h x M⟩) 0 (by decide) (by decide) x (-1) M (Or.inl rfl)
  have hp : 0 ≤ i.toInt ∧ i.toInt < 7 := ⟨i0, i1⟩
  have xi := ix_int i0
  have q6 := own_q6 hp
  have n7 := Nn.2.2.2.2.2.2.1 (ix i) (by omega)
  have nx : ∀ (y : Int64) (g : Int32), own_Me y s → (g = -1 ∨ ∃ q, q < 7 ∧ gI s 6 q ≠ -1 ∧ g = gI s 6 q) → wplL PP QQ (some (N, sg)) 4 lm4 223 [some (.ref 1), some (.long y), none, some (.int R), some (.int g), some (.int i), none, none, none, none, none, none, none] [] (W1 s) Q := fun y g My hg => l4r1W1_223 _ _ _ _ _ _ _ _ (ih y g My hg)
  refine l4r1W1_6 _ _ _ _ _ _ _ _ ⟨fun _ => c10_in _ _ _ (own_v21 s i hp _ ⟨fun z => absurd z (by decide), fun _ => ⟨hp, c11_in _ _ _ (own_v21 s i hp _ ⟨fun z => absurd z (by decide), fun _ => ⟨hp, fun m hm => ?_⟩⟩)⟩⟩), fun z => absurd (by rw [own_lt7]; exact i1) z⟩
  have ez : Jvm.Free.XT.ushrL x (6 * i) &&& 63 = own_z x (6 * i) := rfl
  rw [ez] at hm ⊢
  have Mi := M.1 i i0 i1
  -- a decision
  have dec : gI s 6 (ix i) ≠ -1 → wplL PP QQ (some (N, sg)) 4 lm4 69 [some (.ref 1), some (.long x), none, some (.int R), some (.int g), some (.int i), some (.int (gI s 6 (ix i))), some (.int (gI s 7 (ix i))), some (.long (own_z x (6 * i))), none, some (.int m), none, none] [] (W1 s) Q := fun nd => by
    have dv := n7.resolve_left nd
    have Vx := own_Vx dv.1 ⟨dv.2.1.1, by omega⟩
    have hg2 : (gI s 6 (ix i) = -1 ∨ ∃ q, q < 7 ∧ gI s 6 q ≠ -1 ∧ gI s 6 (ix i) = gI s 6 q) := Or.inr ⟨ix i, by omega, nd, rfl⟩
    have last : ∀ f : Int32, f ≠ 0 → wplL PP QQ (some (N, sg)) 4 lm4 99 [some (.ref 1), some (.long x), none, some (.int R), some (.int (gI s 6 (ix i))), some (.int i), some (.int (gI s 6 (ix i))), some (.int (gI s 7 (ix i))), some (.long (own_z x (6 * i))), none, some (.int m), some (.int f), some (.int (7 : Int32))] [] (W1 s) Q := fun f hf => by
      refine l4r1W1_99 _ _ _ _ _ _ _ _ _ _ _ _ _ _ ⟨fun z => absurd z (by decide), fun _ => ⟨fun z => absurd z hf, fun _ => ⟨fun z => absurd z (by rw [own_lt1]; omega), fun _ => ⟨fun z => absurd z (by rw [← eR, i32_lt]; omega), fun _ => ⟨fun z => ?_, fun z => ?_⟩⟩⟩⟩⟩
      · refine l4r1W1_211 _ _ _ _ _ _ _ _ (nx _ _ ⟨fun p p0 p7 => ?_, fun j hj => ?_⟩ hg2)
        · have xp := ix_int p0
          have q6' := own_q6 ⟨p0, p7⟩
          by_cases ep : p = i
          · subst ep
            have zz : own_z x (6 * p) = 0 := by
              rcases Mi with w | w
              · exact w
              · rw [hm, w.2, if_neg (fun c => Vx.1 ((own_cm0 _).mp c))] at z
                exact absurd z (by decide)
            exact Or.inr ⟨nd, own_z_set (by omega) (by omega) Vx.2.2.2 zz⟩
          · have ne : p.toInt ≠ i.toInt := fun w => ep ((i32_eq).mpr w)
            rw [own_z_oth (d := Int32.toInt64 ((1 ||| (gI s 6 (ix i) <<< ((1 : Int32) &&& 31))) ||| (gI s 7 (ix i) <<< ((2 : Int32) &&& 31)))) (by omega) (by omega) (by omega) (by omega) Vx.2.2.2 (by omega)]
            exact M.1 p p0 p7
        · by_cases l : j < 64
          · have x6 := ix_int (i := 6 * i) (by omega)
            have := Vx.2.2.2 (j - ix (6 * i)) (by omega)
            unfold own_V at this
            rw [own_bl_or, M.2 j hj, own_bl_shl _ _ (by omega) (by omega) j l, this]
            simp
          · exact own_bl_hi _ _ (by omega)
      · have zz : own_z x (6 * i) = own_V (gI s 6 (ix i)) (gI s 7 (ix i)) := by
          rcases Mi with w | w
          · rw [hm, w, if_pos (by rw [own_cm0]; decide)] at z
            exact absurd rfl z
          · exact w.2
        rw [zz, Vx.2.1, Vx.2.2.1]
        exact ⟨fun _ => ⟨fun _ => l4r1W1_211 _ _ _ _ _ _ _ _ (nx _ _ M hg2), fun w => absurd rfl w⟩, fun w => absurd rfl w⟩
    have l93 : wplL PP QQ (some (N, sg)) 4 lm4 93 [some (.ref 1), some (.long x), none, some (.int R), some (.int (gI s 6 (ix i))), some (.int i), some (.int (gI s 6 (ix i))), some (.int (gI s 7 (ix i))), some (.long (own_z x (6 * i))), none, some (.int m), none, none] [] (W1 s) Q := by
      apply l4r1W1_93
      obtain ⟨w, hw, ew⟩ := own_valid Nn (p := ix i) (by omega) nd
      refine loop_up (F := fun k => ∀ f : Int32, (w < ix k → f = 1) → wplL PP QQ (some (N, sg)) 4 lm4 99 [some (.ref 1), some (.long x), none, some (.int R), some (.int (gI s 6 (ix i))), some (.int i), some (.int (gI s 6 (ix i))), some (.int (gI s 7 (ix i))), some (.long (own_z x (6 * i))), none, some (.int m), some (.int f), some (.int k)] [] (W1 s) Q) 7 (by decide) (fun k k0 k1 ek ih2 f hf => ?_) (fun k hk f hf => ?_) 0 (by decide) (by decide) 0 (fun z => absurd z (by show ¬ w < 0; omega))
      · have xk := ix_int k0
        have xk1 := ix_int (i := k + 1) (by omega)
        refine l4r1W1_99 _ _ _ _ _ _ _ _ _ _ _ _ _ _ ⟨fun _ => own_c9 s k ⟨k0, k1⟩ _ fun m2 hm2 => ih2 m2 fun l => ?_, fun z => absurd (by rw [own_lt7]; exact k1) z⟩
        rw [hm2]
        by_cases c : w = ix k
        · rw [if_pos (by rw [← c]; exact ew)]
        · split
          · rfl
          · exact hf (by omega)
      · have xk := ix_int (i := k) (by omega)
        have k7 : k = 7 := (i32_eq).mpr hk
        subst k7
        exact last f (by rw [hf (by omega)]; decide)
    refine l4r1W1_69 _ _ _ _ _ _ _ _ _ _ _ _ ⟨fun z => l93, fun z => ⟨fun z2 => ?_, fun z2 => ?_⟩⟩
    · rw [z2]; exact l93
    · obtain ⟨q, hq, nq, eq⟩ := hg.resolve_left z
      exact absurd (by rw [eq]; exact own_agree Nn hq (by omega) nq nd) z2
  refine ⟨fun z => dec (by rw [z]; decide), fun z => ⟨fun z2 => dec (by rw [z2]; decide), fun z2 => ?_⟩⟩
  have nd : gI s 6 (ix i) = -1 := n7.elim id fun w => absurd w.1 (fun c => c.elim z z2)
  refine ⟨fun _ => nx x g M hg, fun z3 => absurd ?_ z3⟩
  rcases Mi with w | w
  · rw [hm, w, if_pos (by rw [own_cm0]; decide)]
  · exact absurd nd w.1

theorem own_and1 (x : Int32) : x &&& 1 = 0 ∨ x &&& 1 = 1 := by
  have m := Jvm.Kit.i32_mask x 1 (k := 1) (by decide) (by decide)
  have p : ((2 : Int) ^ 1) = 2 := by decide
  rw [p] at m
  by_cases c : (x &&& 1).toInt = 0
  · exact Or.inl ((i32_eq).mpr c)
  · exact Or.inr ((i32_eq).mpr (by show _ = (1 : Int); omega))
theorem own_start {f R : Int32} {s : St} (K : own_K f R s) (hf : 0 ≤ f.toInt ∧ f.toInt ≤ 3) (hR : 1 ≤ R.toInt ∧ R.toInt ≤ 8) : own_J s ∧ own_Me 0 s ∧ gI s 0 20 = R := by
  obtain ⟨⟨k19, k20, k21, k22⟩, k1, k2, k3, k4, k5, k6, k7, k8, k9, k10, k11⟩ := K
  have T : ∀ p k h, p < 7 → k < 8 → h < 2 → own_T s p k h = -1 := fun p k h hp hk hh => k10 _ (by omega)
  have q : (7 - f).toInt = 7 - f.toInt := by rw [i32_sub] <;> simp <;> omega
  have n1 : (-1 : Int32) ≠ 0 ∧ (-1 : Int32) ≠ 1 := by decide
  refine ⟨⟨⟨⟨by rw [k19]; exact hf, by rw [k20]; exact hR, by rw [k21, k19]; exact q⟩, fun p k hp hk => ⟨Or.inl (T p k 0 hp hk (by decide)), Or.inl (T p k 1 hp hk (by decide))⟩, fun a d k h _ _ _ _ w => ?_, fun p k v hp hk hv e => ?_, fun p k v hp hk _ e => absurd (T p k 1 hp hk (by decide)) e, fun p k v hp hk _ e => absurd (T p (k + 1) 0 hp (by omega) (by decide)) e, fun p hp => Or.inl (k6 p hp), fun p hp e => absurd (T p 0 0 hp (by decide) (by decide)) e⟩, fun q hq => ⟨fun _ k h hk hh => T q k h hq hk hh, fun z => ?_⟩⟩, ⟨fun p p0 p7 => Or.inl ?_, fun j _ => by simp [own_bl]⟩, k20⟩
  · unfold own_C at w
    rw [k11] at w
    rcases w with w | w <;> exact absurd w (by decide)
  · rw [T p k 1 hp hk (by decide)] at e
    rcases hv with z | z
    · rw [z] at e; exact absurd e n1.1
    · rw [z] at e; exact absurd e n1.2
  · rw [k1] at z; exact absurd z (by decide)
  · have q6 := own_q6 ⟨p0, p7⟩
    apply own_bl_ext
    intro j hj
    rw [own_z_bit _ _ (by omega) (by omega) j hj, own_bl_0, own_bl_0]; rfl
theorem law_ok (N : Nat) (sg : Nat → Int32) (hN : (N : Int) ≤ (260 : Int32).toInt) : lalI PP QQ (some (N, sg)) 0 [.ref 0] W0 (fun v _ => v = 1) := by
  have e260 : (260 : Int32).toInt = 260 := by decide
  have eN : (Int32.ofNat N).toInt = N := Int32.toInt_ofNat_of_lt (by omega)
  have cell : ∀ (k : Int32) (s : St) (Q : Int32 → Wd → Prop), 0 ≤ k.toInt → (∀ v, Q v (W1 s)) → lalI PP QQ (some (N, sg)) 2 [.ref 0, .int k] (W1 s) Q := fun k s Q k0 h => l2r0W1_in _ _ _ _ _ ⟨fun l => ⟨⟨k0, by rw [i32_lt, eN] at l; exact l⟩, h _⟩, fun _ => h _⟩
  have cell0 : ∀ (k : Int32) (Q : Int32 → Wd → Prop), 0 ≤ k.toInt → (∀ v, Q v W0) → lalI PP QQ (some (N, sg)) 2 [.ref 0, .int k] W0 Q := fun k Q k0 h => l2r0W0_in _ _ _ _ ⟨fun l => ⟨⟨k0, by rw [i32_lt, eN] at l; exact l⟩, h _⟩, fun _ => h _⟩
  have nn : ∀ {y : Int64} {s : St}, own_Me y s → ¬ Jvm.Free.XT.cmpL y 0 < 0 := fun M => own_nn (M.2 63 (by decide))
  apply l0_in
  refine cell0 _ _ (by decide) fun v2 => ⟨rfl, cell0 _ _ (by decide) fun v5 => ⟨rfl, own_ctor _ _ _ fun f R s ef eR K => ?_⟩⟩
  have r7 : 0 ≤ (v5 &&& 7).toInt ∧ (v5 &&& 7).toInt < 8 := by
    have := Jvm.Kit.i32_mask v5 7 (k := 3) (by decide) (by decide)
    rw [this]; omega
  have x2 : (1 + (v5 &&& 7)).toInt = 1 + (v5 &&& 7).toInt := by rw [i32_add] <;> simp <;> omega
  have hf := own_cl_rng (by decide) ef
  have hR := own_cl_rng (by decide) eR
  have eRR : R = 1 + (v5 &&& 7) := by
    rw [eR, if_neg (by rw [own_lt1]; omega), if_neg (by rw [own_gt8]; omega)]
  generalize 1 + (v5 &&& 7) = RR at x2 eRR ⊢
  subst eRR
  obtain ⟨J0, M0, e20⟩ := own_start K ⟨hf.1, hf.2⟩ ⟨hR.1, hR.2⟩
  have hR0 : R ≠ 0 := fun w => by rw [w] at x2; have : (0 : Int32).toInt = 0 := by decide
                                  omega
  have hR8 : 1 ≤ R.toInt ∧ R.toInt ≤ 8 := ⟨hR.1, hR.2⟩
  clear ef eR hf hR K
  refine own_chk N sg s J0 0 M0 R e20 _ fun y My => ⟨s, rfl, fun z => absurd z (nn My), fun _ => ?_⟩
  refine cell _ _ _ (by decide) fun v17 => ⟨s, rfl, cell _ _ _ (by decide) fun v21 => ⟨s, rfl, cell _ _ _ (by decide) fun v25 => ⟨s, rfl, cell _ _ _ (by decide) fun v29 => ⟨s, rfl, ?_⟩⟩⟩⟩
  -- the main loop
  have main : ∀ (n : Nat) (i : Int32) (y : Int64) (s : St), 0 ≤ i.toInt → i.toInt + n = N + 20 → own_J s → own_Me y s → gI s 0 20 = R → wplI PP QQ (some (N, sg)) 0 lm0 150 [some (.ref 0), none, some (.int R), some (.ref 1), some (.long y), none, none, none, none, none, some (.int i), none, none, none, none, none, none, none] [] (W1 s) (fun v _ => v = 1) := by
    intro n
    induction n using Nat.strongRecOn with
    | _ n ih =>
    intro i y s i0 hn J M e20
    refine l0_150 _ _ _ _ _ _ ⟨fun l => ?_, fun _ => rfl⟩
    rw [i32_lt, eN] at l
    have e1 : (i + 1).toInt = i.toInt + 1 := by rw [i32_add] <;> simp <;> omega
    have e2 : (i + 2).toInt = i.toInt + 2 := by rw [i32_add] <;> simp <;> omega
    have e3 : (i + 3).toInt = i.toInt + 3 := by rw [i32_add] <;> simp <;> omega
    have e4 : (i + 4).toInt = i.toInt + 4 := by rw [i32_add] <;> simp <;> omega
    have nx : ∀ (y : Int64) (t : St), own_J t → own_Me y t → gI t 0 20 = R → wplI PP QQ (some (N, sg)) 0 lm0 420 [some (.ref 0), none, some (.int R), some (.ref 1), some (.long y), none, none, none, none, none, some (.int i), none, none, none, none, none, none, none] [] (W1 t) (fun v _ => v = 1) := fun y t Jt Mt et => l0_420 _ _ _ _ _ _ (ih (n - 4) (by omega) (i + 4) y t (by omega) (by omega) Jt Mt et)
    have ck : ∀ (t : St) (Q : Int64 → Wd → Prop), own_J t → own_ev s t → (∀ y', own_Me y' t → gI t 0 20 = R → Q y' (W1 t)) → lalL PP QQ (some (N, sg)) 4 [.ref 1, .long y, .int R] (W1 t) Q := fun t Q Jt et h => own_chk N sg t Jt y (own_Me_ev M et) R (by rw [et.1, e20]) Q fun y' My => h y' My (by rw [et.1, e20])
    refine cell _ _ _ (by omega) fun v52 => ⟨s, rfl, cell _ _ _ (by omega) fun v56 => ⟨s, rfl, cell _ _ _ (by omega) fun v60 => ⟨s, rfl, cell _ _ _ (by omega) fun v64 => ⟨s, rfl, ?_⟩⟩⟩⟩
    refine ⟨fun _ => l3W1_in _ _ _ _ _ _ ⟨by decide, s, rfl, own_v2 s J _ _ _ _ (own_and1 v60) _ fun v t Jt et => ck t _ Jt et fun y' My e' => ⟨t, rfl, fun z => absurd z (nn My), fun _ => nx y' t Jt My e'⟩⟩, fun _ => ⟨fun _ => l3W1_in _ _ _ _ _ _ ⟨hR0, s, rfl, own_v3 s J _ _ _ _ (own_and1 _) _ fun v t Jt et => ck t _ Jt et fun y' My e' => ⟨t, rfl, fun z => absurd z (nn My), fun _ => nx y' t Jt My e'⟩⟩, fun _ => ⟨fun _ m104 _ => ?_, fun _ => l3W1_in _ _ _ _ _ _ ⟨by decide, s, rfl, own_v4 s J _ _ _ fun v t Jt et => ck t _ Jt et fun y' My e' => ⟨t, rfl, fun z => absurd z (nn My), fun _ => nx y' t Jt My e'⟩⟩⟩⟩⟩
    -- every round, both phases
    refine loop_up (F := fun r => 1 ≤ r.toInt → ∀ (y : Int64) (u : St), own_J u → own_Me y u → gI u 0 20 = R → wplI PP QQ (some (N, sg)) 0 lm0 324 [some (.ref 0), none, some (.int R), some (.ref 1), some (.long y), none, none, none, none, none, some (.int i), none, none, none, none, some (.int m104), some (.int r), none] [] (W1 u) (fun v _ => v = 1)) (R.toInt + 1) (by omega) (fun r r0 r1 er ihr r2 y u Ju Mu eu => ?_) (fun r hr _ y u Ju Mu eu => l0_324 _ _ _ _ _ _ _ _ ⟨fun _ => nx y u Ju Mu eu, fun z => absurd (by rw [i32_lt]; omega) z⟩) 1 (by decide) (by show (1 : Int) ≤ _; omega) (by decide) y s J M e20
    refine l0_324 _ _ _ _ _ _ _ _ ⟨fun z => absurd z (by rw [i32_lt]; omega), fun _ => ?_⟩
    refine loop_up (F := fun k => ∀ (y : Int64) (u : St), own_J u → own_Me y u → gI u 0 20 = R → wplI PP QQ (some (N, sg)) 0 lm0 333 [some (.ref 0), none, some (.int R), some (.ref 1), some (.long y), none, none, none, none, none, some (.int i), none, none, none, none, some (.int m104), some (.int r), some (.int k)] [] (W1 u) (fun v _ => v = 1)) 2 (by decide) (fun k k0 k1 ek ihk y u Ju Mu eu => ?_) (fun k hk y u Ju Mu eu => l0_333 _ _ _ _ _ _ _ _ _ ⟨fun z => absurd z (by rw [own_lt2]; omega), fun _ => ihr (by omega) y u Ju Mu eu⟩) 0 (by decide) (by decide) y u Ju Mu eu
    have hh : k = 0 ∨ k = 1 := by
      by_cases c : k.toInt = 0
      · exact Or.inl ((i32_eq).mpr c)
      · exact Or.inr ((i32_eq).mpr (by show _ = (1 : Int); omega))
    exact l0_333 _ _ _ _ _ _ _ _ _ ⟨fun _ => own_v3 u Ju _ _ _ _ hh _ fun v t Jt et => own_chk N sg t Jt y (own_Me_ev Mu et) R (by rw [et.1, eu]) _ fun y' My => ⟨t, rfl, fun z => absurd z (nn My), fun _ => ihk y' t Jt My (by rw [et.1, eu])⟩, fun z => absurd (by rw [own_lt2]; exact k1) z⟩
  -- the inputs
  refine loop_up (F := fun i => ∀ (y : Int64) (s : St), own_J s → own_Me y s → gI s 0 20 = R → wplI PP QQ (some (N, sg)) 0 lm0 77 [some (.ref 0), none, some (.int R), some (.ref 1), some (.long y), none, some (.int v17), some (.int v21), some (.int v25), some (.int v29), some (.int i), none, none, none, none, none, none, none] [] (W1 s) (fun v _ => v = 1)) 7 (by decide) (fun i i0 i1 e ih y s J M e20 => ?_) (fun i hi y s J M e20 => l0_77 _ _ _ _ _ _ _ _ _ _ ⟨fun z => absurd z (by rw [own_lt7]; omega), fun _ => main (N + 14) 6 y s (by decide) (by show (6 : Int) + _ = _; omega) J M e20⟩) 0 (by decide) (by decide) y s J0 My e20
  refine l0_77 _ _ _ _ _ _ _ _ _ _ ⟨fun _ => ⟨fun _ => own_v2 s J _ _ _ _ (own_and1 _) _ fun v t Jt et => own_chk N sg t Jt y (own_Me_ev M et) R (by rw [et.1, e20]) _ fun y' My => ⟨t, rfl, fun z => absurd z (nn My), fun _ => l0_140 _ _ _ _ _ _ _ _ _ _ (ih y' t Jt My (by rw [et.1, e20]))⟩, fun _ => l0_140 _ _ _ _ _ _ _ _ _ _ (ih y s J M e20)⟩, fun z => absurd (by rw [own_lt7]; exact i1) z⟩
theorem comes_1 {Post : Tables → Env → Array Value → State → Outcome → State → Prop} (hpost : ∀ tb e args s v u, (limb_1_1.after args s (.returned v) u = true ∧ limb_1_2.after args s (.returned v) u = true ∧ True) → FrameEnd s (.returned v) u (Jvm.fieldLocs frame_1_writes args s ++ Jvm.arrayLocs frame_1_arrays args s ++ Jvm.staticLocs frame_1_statics s) 32 2048 → Post tb e args s (.returned v) u) :
    ArmFor flags0 classFile x code maxLocals ret World_1 tables_1 room_1 Calls_1 rest_1 Pre_1 Post := by
  intro l hfl _ _ p e ha hc hk s m args below hf hA hF happ hP
  obtain ⟨hcalls, hrest, hpre⟩ := hP
  obtain ⟨-, -, -, hnamed, -, -, -, hat⟩ := (Spec.applies_iff hf).mp happ
  obtain ⟨hg, hn⟩ := and_e (Cond.before_iff.mp (show (Jvm.Cond.and given_1 narrow_1).before args s = true from hpre))
  obtain ⟨h1, g0⟩ := and_e hg
  obtain ⟨w0, rfl⟩ : ∃ w0 : Value, args = #[w0] := by
    have hs : args.size = 1 := by simpa [Cond.value, given_1] using h1
    obtain ⟨L⟩ := args
    match L, hs with
    | [w0], _ => exact ⟨w0, rfl⟩
  have hw := fun d (hd : d ∈ tables_1) => atoms_spec (ws := Jvm.Cond.code x code maxLocals ret :: tables_1) hat d (List.mem_cons_of_mem _ hd)
  have hfit : Fit s := fun {y c} hc i hi => by
    obtain ⟨ha, rfl⟩ := Array.getElem?_eq_some_iff.mp hc
    have q := List.all_eq_true.mp ((Array.all_eq_true_iff_forall_mem.mp hF) _ (Array.getElem_mem ha)) i (List.mem_range.mpr hi)
    simpa [Array.getElem?_eq_getElem hi] using q
  obtain ⟨hn1, hn2⟩ := and_e hn
  obtain ⟨a, ea⟩ := arr_v hn1
  obtain rfl : w0 = .ref a := Option.some.inj ea
  obtain ⟨cl, A⟩ := Arr.start ea hn1
  obtain ⟨⟨-, hN⟩, hS⟩ := script_of hfit A ea hn2
  obtain ⟨f, w0, hr⟩ := law_run (law_ok cl.slots.size (fun i => match cl.slots[i]? with | some (.int x) => x | _ => 0) hN) (me := lm0) rfl
  have M : MetFree l x (head1 (Jvm.Cond.code x code maxLocals ret :: tables_1) room_1) (fun b U => b = #[.ref a] ∧ s.Warmed39 U.vm ∧ U.heap = s.heap) (fun _ _ _ _ _ => True) (fun _ U o U' => ∃ u L, o = .returned u ∧ (u = some (.int 1) ∧ Fr s.heap.size L) ∧ FrameEnd U o U' L 32 2048) :=
    law_met (lkC s _ hw) (lkL s _ hw) (sc := some (cl.slots.size, fun i => match cl.slots[i]? with | some (.int x) => x | _ => 0)) (a := a) (me := lm0) rfl l (bytes := code) (chk_ok dk_l0) (as := [.ref 0]) rfl (Nat.le_of_ble_eq_true rfl) hr hS
  obtain ⟨n, o, h1, h2, h3, _, L, rfl, ⟨rfl, N⟩, hq⟩ := M p e ha hc hk s m _ below hf ((Spec.applies_iff_loose hf).mp happ).1 ⟨rfl, State.Warmed39.refl s, rfl⟩ trivial
  refine ⟨n, _, h1, h2, h3, hpost _ _ _ _ _ _ ⟨Cond.after_iff.mpr rfl, Cond.after_iff.mpr (eq_i res_at (Term.int_eval (1)) rfl), trivial⟩ ⟨hq.1, hq.2.1, (hq.2.2.sift fun y hy => Or.inr (N y hy)).mono (by decide) (by decide)⟩⟩
theorem main_1_1 : Claimed_1_1 := comes_1 fun _ _ _ _ _ _ h hF => ⟨h.1, hF⟩
theorem main_1_2 : Claimed_1_2 := comes_1 fun _ _ _ _ _ _ h hF => ⟨h.2.1, hF⟩
end Jvm.Pilot.@@N@@
namespace Jvm.Pilot.@@N@@
open Jvm Jvm.ClassFile Sem Op Lib Jvm.Free Jvm.Stand Jvm.Pilot.@@N@@.Jvm.D
/-! MADE BY PROGRAM (witnessworld.py) out of the Statement's table words and the real class files: 11 classes; the members and pool entries that the words name. The judged class is class 1, her method 4. -/
namespace start1
open Jvm.ClassFile
def u (s : String) : CpInfo := .utf8 (stringToUtf16 s)
/-- a pool by its gaps: so many unusable entries, then the entry; so many at the end -/
def gap : Nat → List CpInfo → List CpInfo
  | 0, r => r
  | n + 1, r => .unusable :: gap n r
def poolList (es : List (Nat × CpInfo)) (last : Nat) : List CpInfo := es.foldr (fun e r => gap e.1 (e.2 :: r)) (gap last [])
def pool (es : List (Nat × CpInfo)) (last : Nat) : Array CpInfo := ⟨poolList es last⟩
def fileOf (pool : Array CpInfo) (this : Nat) (attrs : Array Attribute := #[]) (ms : Array MethodInfo := #[]) (fl : Nat := 33) (sup : Nat := 0) (ifs : Array Nat := #[]) (fds : Array FieldInfo := #[]) : ClassFile where
  minorVersion := 0
  majorVersion := 65
  constantPool := pool
  accessFlags := fl
  thisClass := this
  superClass := sup
  interfaces := ifs
  fields := fds
  methods := ms
  attributes := attrs
def plain (name : String) (sup : Option ClassId) : Class where
  name := name
  kind := .ordinary
  loader := none
  accessFlags := 33
  super := sup
  interfaces := #[]
  cf := none
  fields := #[]
  methods := #[]
  instanceTypes := #[]
  staticTypes := #[]
  resolved := #[]
  callSites := []
  init := .initialized
  statics := none
  mirror := none

def pool0 : Array CpInfo := pool [(5, u "<init>"), (0, u "()V"), (1, .class_ 10), (1, u "java/lang/Object")] 113

def k0c0 : Code := { maxStack := 0, maxLocals := 1, code := object_method_1_code, exceptionTable := #[], attributes := #[] }
def k0m0 : Method := { name := "<init>", desc := "()V", sig := { parameters := [], returnType := none }, accessFlags := 1, code := some k0c0 }
/-- java/lang/Object -/
def k0 : Class := { plain "java/lang/Object" none with
  accessFlags := 33
  interfaces := #[]
  cf := some (fileOf pool0 8 #[] #[{ accessFlags := 1, nameIndex := 5, descriptorIndex := 6, attributes := #[] }] 33 0 #[] #[])
  fields := #[]
  methods := #[k0m0]
  instanceTypes := #[]
  staticTypes := #[]
  resolved := Array.replicate 124 none
  statics := none }

def pool1 : Array CpInfo := pool [(2, .class_ 4), (1, u "java/lang/Object"), (0, u "<init>"), (0, u "()V"), (0, .integer 2147483647), (0, .methodref 9 10), (0, .class_ 11), (0, .nameAndType 12 13), (0, u "RandomConsensus"), (0, u "decision"), (0, u "(I)I"), (0, .methodref 9 15), (0, .nameAndType 16 13), (0, u "decisionRound"), (0, .long 63), (1, .long 18446744073709551615), (1, .methodref 9 22), (0, .nameAndType 23 13), (0, u "inputOf"), (0, .long 15), (1, .methodref 27 28), (0, .class_ 29), (0, .nameAndType 30 31), (0, u "RandomConsensusOwnLaw"), (0, u "cell"), (0, u "([II)I"), (0, .methodref 9 33), (0, .nameAndType 5 34), (0, u "(II)V"), (0, .methodref 27 36), (0, .nameAndType 37 38), (0, u "check"), (0, u "(LRandomConsensus;JI)J"), (0, .methodref 9 40), (0, .nameAndType 41 42), (0, u "setInput"), (0, u "(IIII)Z"), (0, .methodref 27 44), (0, .nameAndType 45 46), (0, u "mod"), (0, u "(II)I"), (0, .methodref 9 48), (0, .nameAndType 49 50), (0, u "deliver"), (0, u "(IIII)I"), (0, .methodref 9 52), (0, .nameAndType 53 54), (0, u "crash"), (0, u "(II)Z"), (3, u "law"), (0, u "([I)Z")] 4

def k1m0 : Method := { name := "<init>", desc := "()V", sig := { parameters := [], returnType := none }, accessFlags := 1, code := none }
def k1c1 : Code := { maxStack := 2, maxLocals := 2, code := method_2_code, exceptionTable := #[], attributes := #[] }
def k1m1 : Method := { name := "cell", desc := "([II)I", sig := { parameters := [(.array .int), .int], returnType := some .int }, accessFlags := 10, code := some k1c1 }
def k1c2 : Code := { maxStack := 2, maxLocals := 2, code := method_3_code, exceptionTable := #[], attributes := #[] }
def k1m2 : Method := { name := "mod", desc := "(II)I", sig := { parameters := [.int, .int], returnType := some .int }, accessFlags := 10, code := some k1c2 }
def k1c3 : Code := { maxStack := 6, maxLocals := 13, code := method_4_code, exceptionTable := #[], attributes := #[] }
def k1m3 : Method := { name := "check", desc := "(LRandomConsensus;JI)J", sig := { parameters := [(.object "RandomConsensus"), .long, .int], returnType := some .long }, accessFlags := 10, code := some k1c3 }
def k1c4 : Code := { maxStack := 7, maxLocals := 18, code := code, exceptionTable := #[], attributes := #[] }
def k1m4 : Method := { name := "law", desc := "([I)Z", sig := { parameters := [(.array .int)], returnType := some .boolean }, accessFlags := 9, code := some k1c4 }
/-- RandomConsensusOwnLaw -/
def k1 : Class := { plain "RandomConsensusOwnLaw" (some 0) with
  accessFlags := 49
  interfaces := #[]
  cf := some (fileOf pool1 27 #[] #[{ accessFlags := 1, nameIndex := 5, descriptorIndex := 6, attributes := #[] }, { accessFlags := 10, nameIndex := 30, descriptorIndex := 31, attributes := #[] }, { accessFlags := 10, nameIndex := 45, descriptorIndex := 46, attributes := #[] }, { accessFlags := 10, nameIndex := 37, descriptorIndex := 38, attributes := #[] }, { accessFlags := 9, nameIndex := 58, descriptorIndex := 59, attributes := #[] }] 49 2 #[] #[])
  fields := #[]
  methods := #[k1m0, k1m1, k1m2, k1m3, k1m4]
  instanceTypes := #[]
  staticTypes := #[]
  resolved := Array.replicate 64 none
  statics := none }

def pool2 : Array CpInfo := pool [(1, .methodref 2 3), (0, .class_ 4), (0, .nameAndType 5 6), (0, u "java/lang/Object"), (0, u "<init>"), (0, u "()V"), (0, .fieldref 8 9), (0, .class_ 10), (0, .nameAndType 11 12), (0, u "RandomConsensus"), (0, u "procStatus"), (0, u "[I"), (0, .fieldref 8 14), (0, .nameAndType 15 12), (0, u "procInput"), (0, .fieldref 8 17), (0, .nameAndType 18 12), (0, u "procEstimate"), (0, .fieldref 8 20), (0, .nameAndType 21 12), (0, u "procRound"), (0, .fieldref 8 23), (0, .nameAndType 24 12), (0, u "procPhase"), (0, .fieldref 8 26), (0, .nameAndType 27 12), (0, u "procDecision"), (0, .fieldref 8 29), (0, .nameAndType 30 12), (0, u "procDecisionRound"), (0, .fieldref 8 32), (0, .nameAndType 33 34), (0, u "procCoin"), (0, u "[J"), (0, .fieldref 8 36), (0, .nameAndType 37 12), (0, u "procFlips"), (0, .fieldref 8 39), (0, .nameAndType 40 12), (0, u "sentValues"), (0, .fieldref 8 42), (0, .nameAndType 43 12), (0, u "copyStates"), (0, .methodref 8 45), (0, .nameAndType 46 47), (0, u "clamp"), (0, u "(III)I"), (0, .fieldref 8 49), (0, .nameAndType 50 51), (0, u "faultLimit"), (0, u "I"), (0, .fieldref 8 53), (0, .nameAndType 54 51), (0, u "roundLimit"), (0, .fieldref 8 56), (0, .nameAndType 57 51), (0, u "quorum"), (0, .fieldref 8 59), (0, .nameAndType 60 51), (0, u "crashTotal"), (0, .methodref 8 62), (0, .nameAndType 63 6), (0, u "resetAllProcesses"), (0, .methodref 8 65), (0, .nameAndType 66 6), (0, u "resetAllMessages"), (0, .methodref 8 68), (0, .nameAndType 69 70), (0, u "validProcess"), (0, u "(I)Z"), (0, .methodref 8 72), (0, .nameAndType 73 70), (0, u "validInputValue"), (0, .methodref 8 75), (0, .nameAndType 76 77), (0, u "composeSeed"), (0, u "(II)J"), (0, .methodref 8 79), (0, .nameAndType 80 81), (0, u "broadcast"), (0, u "(IIII)V"), (0, .methodref 8 83), (0, .nameAndType 84 85), (0, u "step"), (0, u "(I)V"), (0, .methodref 8 87), (0, .nameAndType 88 70), (0, u "validRound"), (0, .methodref 8 90), (0, .nameAndType 91 70), (0, u "validPhase"), (0, .methodref 8 93), (0, .nameAndType 94 95), (0, u "bitSet"), (0, u "(II)Z"), (0, .methodref 8 97), (0, .nameAndType 98 99), (0, u "deliverToReceiver"), (0, u "(IIII)I"), (0, .methodref 8 101), (0, .nameAndType 102 103), (0, u "loseCopies"), (0, u "(II)V"), (0, .methodref 8 105), (0, .nameAndType 106 70), (0, u "hasInput"), (0, .methodref 8 108), (0, .nameAndType 109 47), (0, u "readSent"), (0, .methodref 8 111), (0, .nameAndType 112 99), (0, u "readCopy"), (0, .methodref 8 114), (0, .nameAndType 115 85), (0, u "resetProcess"), (0, .long 4294967295), (1, .methodref 8 119), (0, .nameAndType 120 121), (0, u "validSlot"), (0, u "(IIII)Z"), (0, .methodref 8 123), (0, .nameAndType 124 47), (0, u "sentIndex"), (0, .methodref 8 126), (0, .nameAndType 127 99), (0, u "copyIndex"), (0, .methodref 8 129), (0, .nameAndType 130 70), (0, u "validMessageValue"), (0, .methodref 8 132), (0, .nameAndType 133 81), (0, u "writeSent"), (0, .methodref 8 135), (0, .nameAndType 136 137), (0, u "writeCopy"), (0, u "(IIIII)V"), (0, .methodref 8 139), (0, .nameAndType 140 121), (0, u "deliverPair"), (0, .methodref 8 142), (0, .nameAndType 143 70), (0, u "stepOnce"), (0, .methodref 8 145), (0, .nameAndType 146 47), (0, u "heldCount"), (0, .methodref 8 148), (0, .nameAndType 149 99), (0, u "heldValueCount"), (0, .methodref 8 151), (0, .nameAndType 152 81), (0, u "finishReportPhase"), (0, .methodref 8 154), (0, .nameAndType 155 121), (0, u "finishProposalPhase"), (0, .methodref 8 157), (0, .nameAndType 158 159), (0, u "reportOutcome"), (0, u "(II)I"), (0, .methodref 8 161), (0, .nameAndType 162 159), (0, u "proposalOutcome"), (0, .methodref 8 164), (0, .nameAndType 165 85), (0, u "drawCoin"), (0, .methodref 8 167), (0, .nameAndType 168 47), (0, u "countFor"), (0, .methodref 8 170), (0, .nameAndType 171 81), (0, u "adoptValue"), (0, .methodref 8 173), (0, .nameAndType 174 103), (0, u "startRound"), (0, .long 6364136223846793005), (1, .long 1442695040888963407), (1, u "N"), (2, u "REPORT"), (1, u "PROPOSAL"), (1, u "NONE"), (1, u "BOTTOM"), (1, u "UNDECIDED"), (0, u "IDLE"), (0, u "RUNNING"), (0, u "DONE"), (0, u "CRASHED"), (1, u "NOT_SENT"), (0, u "IN_TRANSIT"), (0, u "DELIVERED"), (0, u "LOST"), (0, u "MAX_FAULTS"), (0, u "MAX_ROUNDS"), (1, u "COIN_MUL"), (0, u "J"), (0, u "COIN_ADD"), (2, u "setInput"), (1, u "deliver"), (0, u "crash"), (1, u "(I)I"), (3, u "inputOf"), (0, u "decision"), (0, u "decisionRound")] 9

def k2c0 : Code := { maxStack := 5, maxLocals := 3, code := prog_1_method_1_code, exceptionTable := #[], attributes := #[] }
def k2m0 : Method := { name := "<init>", desc := "(II)V", sig := { parameters := [.int, .int], returnType := none }, accessFlags := 1, code := some k2c0 }
def k2c1 : Code := { maxStack := 5, maxLocals := 5, code := prog_1_method_2_code, exceptionTable := #[], attributes := #[] }
def k2m1 : Method := { name := "setInput", desc := "(IIII)Z", sig := { parameters := [.int, .int, .int, .int], returnType := some .boolean }, accessFlags := 1, code := some k2c1 }
def k2c2 : Code := { maxStack := 6, maxLocals := 7, code := prog_1_method_3_code, exceptionTable := #[], attributes := #[] }
def k2m2 : Method := { name := "deliver", desc := "(IIII)I", sig := { parameters := [.int, .int, .int, .int], returnType := some .int }, accessFlags := 1, code := some k2c2 }
def k2c3 : Code := { maxStack := 3, maxLocals := 4, code := prog_1_method_4_code, exceptionTable := #[], attributes := #[] }
def k2m3 : Method := { name := "crash", desc := "(II)Z", sig := { parameters := [.int, .int], returnType := some .boolean }, accessFlags := 1, code := some k2c3 }
def k2c4 : Code := { maxStack := 2, maxLocals := 2, code := prog_1_method_9_code, exceptionTable := #[], attributes := #[] }
def k2m4 : Method := { name := "inputOf", desc := "(I)I", sig := { parameters := [.int], returnType := some .int }, accessFlags := 1, code := some k2c4 }
def k2c5 : Code := { maxStack := 2, maxLocals := 2, code := prog_1_method_10_code, exceptionTable := #[], attributes := #[] }
def k2m5 : Method := { name := "decision", desc := "(I)I", sig := { parameters := [.int], returnType := some .int }, accessFlags := 1, code := some k2c5 }
def k2c6 : Code := { maxStack := 2, maxLocals := 2, code := prog_1_method_11_code, exceptionTable := #[], attributes := #[] }
def k2m6 : Method := { name := "decisionRound", desc := "(I)I", sig := { parameters := [.int], returnType := some .int }, accessFlags := 1, code := some k2c6 }
def k2c7 : Code := { maxStack := 2, maxLocals := 2, code := prog_1_method_17_code, exceptionTable := #[], attributes := #[] }
def k2m7 : Method := { name := "resetAllProcesses", desc := "()V", sig := { parameters := [], returnType := none }, accessFlags := 2, code := some k2c7 }
def k2c8 : Code := { maxStack := 4, maxLocals := 2, code := prog_1_method_18_code, exceptionTable := #[], attributes := #[] }
def k2m8 : Method := { name := "resetProcess", desc := "(I)V", sig := { parameters := [.int], returnType := none }, accessFlags := 2, code := some k2c8 }
def k2c9 : Code := { maxStack := 3, maxLocals := 2, code := prog_1_method_19_code, exceptionTable := #[], attributes := #[] }
def k2m9 : Method := { name := "resetAllMessages", desc := "()V", sig := { parameters := [], returnType := none }, accessFlags := 2, code := some k2c9 }
def k2c10 : Code := { maxStack := 2, maxLocals := 4, code := prog_1_method_20_code, exceptionTable := #[], attributes := #[] }
def k2m10 : Method := { name := "clamp", desc := "(III)I", sig := { parameters := [.int, .int, .int], returnType := some .int }, accessFlags := 2, code := some k2c10 }
def k2c11 : Code := { maxStack := 2, maxLocals := 2, code := prog_1_method_21_code, exceptionTable := #[], attributes := #[] }
def k2m11 : Method := { name := "validProcess", desc := "(I)Z", sig := { parameters := [.int], returnType := some .boolean }, accessFlags := 2, code := some k2c11 }
def k2c12 : Code := { maxStack := 2, maxLocals := 2, code := prog_1_method_22_code, exceptionTable := #[], attributes := #[] }
def k2m12 : Method := { name := "validRound", desc := "(I)Z", sig := { parameters := [.int], returnType := some .boolean }, accessFlags := 2, code := some k2c12 }
def k2c13 : Code := { maxStack := 2, maxLocals := 2, code := prog_1_method_23_code, exceptionTable := #[], attributes := #[] }
def k2m13 : Method := { name := "validPhase", desc := "(I)Z", sig := { parameters := [.int], returnType := some .boolean }, accessFlags := 2, code := some k2c13 }
def k2c14 : Code := { maxStack := 2, maxLocals := 2, code := prog_1_method_24_code, exceptionTable := #[], attributes := #[] }
def k2m14 : Method := { name := "validInputValue", desc := "(I)Z", sig := { parameters := [.int], returnType := some .boolean }, accessFlags := 2, code := some k2c14 }
def k2c15 : Code := { maxStack := 2, maxLocals := 2, code := prog_1_method_25_code, exceptionTable := #[], attributes := #[] }
def k2m15 : Method := { name := "validMessageValue", desc := "(I)Z", sig := { parameters := [.int], returnType := some .boolean }, accessFlags := 2, code := some k2c15 }
def k2c16 : Code := { maxStack := 2, maxLocals := 3, code := prog_1_method_26_code, exceptionTable := #[], attributes := #[] }
def k2m16 : Method := { name := "bitSet", desc := "(II)Z", sig := { parameters := [.int, .int], returnType := some .boolean }, accessFlags := 2, code := some k2c16 }
def k2c17 : Code := { maxStack := 2, maxLocals := 2, code := prog_1_method_27_code, exceptionTable := #[], attributes := #[] }
def k2m17 : Method := { name := "hasInput", desc := "(I)Z", sig := { parameters := [.int], returnType := some .boolean }, accessFlags := 2, code := some k2c17 }
def k2c18 : Code := { maxStack := 4, maxLocals := 7, code := prog_1_method_28_code, exceptionTable := #[], attributes := #[] }
def k2m18 : Method := { name := "composeSeed", desc := "(II)J", sig := { parameters := [.int, .int], returnType := some .long }, accessFlags := 2, code := some k2c18 }
def k2c19 : Code := { maxStack := 3, maxLocals := 4, code := prog_1_method_29_code, exceptionTable := #[], attributes := #[] }
def k2m19 : Method := { name := "sentIndex", desc := "(III)I", sig := { parameters := [.int, .int, .int], returnType := some .int }, accessFlags := 2, code := some k2c19 }
def k2c20 : Code := { maxStack := 3, maxLocals := 5, code := prog_1_method_30_code, exceptionTable := #[], attributes := #[] }
def k2m20 : Method := { name := "copyIndex", desc := "(IIII)I", sig := { parameters := [.int, .int, .int, .int], returnType := some .int }, accessFlags := 2, code := some k2c20 }
def k2c21 : Code := { maxStack := 2, maxLocals := 5, code := prog_1_method_31_code, exceptionTable := #[], attributes := #[] }
def k2m21 : Method := { name := "validSlot", desc := "(IIII)Z", sig := { parameters := [.int, .int, .int, .int], returnType := some .boolean }, accessFlags := 2, code := some k2c21 }
def k2c22 : Code := { maxStack := 5, maxLocals := 4, code := prog_1_method_32_code, exceptionTable := #[], attributes := #[] }
def k2m22 : Method := { name := "readSent", desc := "(III)I", sig := { parameters := [.int, .int, .int], returnType := some .int }, accessFlags := 2, code := some k2c22 }
def k2c23 : Code := { maxStack := 5, maxLocals := 5, code := prog_1_method_33_code, exceptionTable := #[], attributes := #[] }
def k2m23 : Method := { name := "writeSent", desc := "(IIII)V", sig := { parameters := [.int, .int, .int, .int], returnType := none }, accessFlags := 2, code := some k2c23 }
def k2c24 : Code := { maxStack := 6, maxLocals := 5, code := prog_1_method_34_code, exceptionTable := #[], attributes := #[] }
def k2m24 : Method := { name := "readCopy", desc := "(IIII)I", sig := { parameters := [.int, .int, .int, .int], returnType := some .int }, accessFlags := 2, code := some k2c24 }
def k2c25 : Code := { maxStack := 6, maxLocals := 6, code := prog_1_method_35_code, exceptionTable := #[], attributes := #[] }
def k2m25 : Method := { name := "writeCopy", desc := "(IIIII)V", sig := { parameters := [.int, .int, .int, .int, .int], returnType := none }, accessFlags := 2, code := some k2c25 }
def k2c26 : Code := { maxStack := 6, maxLocals := 6, code := prog_1_method_36_code, exceptionTable := #[], attributes := #[] }
def k2m26 : Method := { name := "broadcast", desc := "(IIII)V", sig := { parameters := [.int, .int, .int, .int], returnType := none }, accessFlags := 2, code := some k2c26 }
def k2c27 : Code := { maxStack := 6, maxLocals := 5, code := prog_1_method_37_code, exceptionTable := #[], attributes := #[] }
def k2m27 : Method := { name := "loseCopies", desc := "(II)V", sig := { parameters := [.int, .int], returnType := none }, accessFlags := 2, code := some k2c27 }
def k2c28 : Code := { maxStack := 5, maxLocals := 7, code := prog_1_method_38_code, exceptionTable := #[], attributes := #[] }
def k2m28 : Method := { name := "deliverToReceiver", desc := "(IIII)I", sig := { parameters := [.int, .int, .int, .int], returnType := some .int }, accessFlags := 2, code := some k2c28 }
def k2c29 : Code := { maxStack := 6, maxLocals := 5, code := prog_1_method_39_code, exceptionTable := #[], attributes := #[] }
def k2m29 : Method := { name := "deliverPair", desc := "(IIII)Z", sig := { parameters := [.int, .int, .int, .int], returnType := some .boolean }, accessFlags := 2, code := some k2c29 }
def k2c30 : Code := { maxStack := 5, maxLocals := 6, code := prog_1_method_40_code, exceptionTable := #[], attributes := #[] }
def k2m30 : Method := { name := "heldCount", desc := "(III)I", sig := { parameters := [.int, .int, .int], returnType := some .int }, accessFlags := 2, code := some k2c30 }
def k2c31 : Code := { maxStack := 5, maxLocals := 7, code := prog_1_method_41_code, exceptionTable := #[], attributes := #[] }
def k2m31 : Method := { name := "heldValueCount", desc := "(IIII)I", sig := { parameters := [.int, .int, .int, .int], returnType := some .int }, accessFlags := 2, code := some k2c31 }
def k2c32 : Code := { maxStack := 2, maxLocals := 4, code := prog_1_method_42_code, exceptionTable := #[], attributes := #[] }
def k2m32 : Method := { name := "step", desc := "(I)V", sig := { parameters := [.int], returnType := none }, accessFlags := 2, code := some k2c32 }
def k2c33 : Code := { maxStack := 5, maxLocals := 6, code := prog_1_method_43_code, exceptionTable := #[], attributes := #[] }
def k2m33 : Method := { name := "stepOnce", desc := "(I)Z", sig := { parameters := [.int], returnType := some .boolean }, accessFlags := 2, code := some k2c33 }
def k2c34 : Code := { maxStack := 2, maxLocals := 3, code := prog_1_method_44_code, exceptionTable := #[], attributes := #[] }
def k2m34 : Method := { name := "reportOutcome", desc := "(II)I", sig := { parameters := [.int, .int], returnType := some .int }, accessFlags := 2, code := some k2c34 }
def k2c35 : Code := { maxStack := 2, maxLocals := 3, code := prog_1_method_45_code, exceptionTable := #[], attributes := #[] }
def k2m35 : Method := { name := "proposalOutcome", desc := "(II)I", sig := { parameters := [.int, .int], returnType := some .int }, accessFlags := 2, code := some k2c35 }
def k2c36 : Code := { maxStack := 1, maxLocals := 4, code := prog_1_method_46_code, exceptionTable := #[], attributes := #[] }
def k2m36 : Method := { name := "countFor", desc := "(III)I", sig := { parameters := [.int, .int, .int], returnType := some .int }, accessFlags := 2, code := some k2c36 }
def k2c37 : Code := { maxStack := 5, maxLocals := 6, code := prog_1_method_47_code, exceptionTable := #[], attributes := #[] }
def k2m37 : Method := { name := "finishReportPhase", desc := "(IIII)V", sig := { parameters := [.int, .int, .int, .int], returnType := none }, accessFlags := 2, code := some k2c37 }
def k2c38 : Code := { maxStack := 5, maxLocals := 7, code := prog_1_method_48_code, exceptionTable := #[], attributes := #[] }
def k2m38 : Method := { name := "finishProposalPhase", desc := "(IIII)Z", sig := { parameters := [.int, .int, .int, .int], returnType := some .boolean }, accessFlags := 2, code := some k2c38 }
def k2c39 : Code := { maxStack := 3, maxLocals := 5, code := prog_1_method_49_code, exceptionTable := #[], attributes := #[] }
def k2m39 : Method := { name := "adoptValue", desc := "(IIII)V", sig := { parameters := [.int, .int, .int, .int], returnType := none }, accessFlags := 2, code := some k2c39 }
def k2c40 : Code := { maxStack := 5, maxLocals := 4, code := prog_1_method_50_code, exceptionTable := #[], attributes := #[] }
def k2m40 : Method := { name := "drawCoin", desc := "(I)V", sig := { parameters := [.int], returnType := none }, accessFlags := 2, code := some k2c40 }
def k2c41 : Code := { maxStack := 6, maxLocals := 3, code := prog_1_method_51_code, exceptionTable := #[], attributes := #[] }
def k2m41 : Method := { name := "startRound", desc := "(II)V", sig := { parameters := [.int, .int], returnType := none }, accessFlags := 2, code := some k2c41 }
/-- RandomConsensus -/
def k2 : Class := { plain "RandomConsensus" (some 0) with
  accessFlags := 49
  interfaces := #[]
  cf := some (fileOf pool2 8 #[] #[{ accessFlags := 1, nameIndex := 5, descriptorIndex := 103, attributes := #[] }, { accessFlags := 1, nameIndex := 208, descriptorIndex := 121, attributes := #[] }, { accessFlags := 1, nameIndex := 210, descriptorIndex := 99, attributes := #[] }, { accessFlags := 1, nameIndex := 211, descriptorIndex := 95, attributes := #[] }, { accessFlags := 1, nameIndex := 217, descriptorIndex := 213, attributes := #[] }, { accessFlags := 1, nameIndex := 218, descriptorIndex := 213, attributes := #[] }, { accessFlags := 1, nameIndex := 219, descriptorIndex := 213, attributes := #[] }, { accessFlags := 2, nameIndex := 63, descriptorIndex := 6, attributes := #[] }, { accessFlags := 2, nameIndex := 115, descriptorIndex := 85, attributes := #[] }, { accessFlags := 2, nameIndex := 66, descriptorIndex := 6, attributes := #[] }, { accessFlags := 2, nameIndex := 46, descriptorIndex := 47, attributes := #[] }, { accessFlags := 2, nameIndex := 69, descriptorIndex := 70, attributes := #[] }, { accessFlags := 2, nameIndex := 88, descriptorIndex := 70, attributes := #[] }, { accessFlags := 2, nameIndex := 91, descriptorIndex := 70, attributes := #[] }, { accessFlags := 2, nameIndex := 73, descriptorIndex := 70, attributes := #[] }, { accessFlags := 2, nameIndex := 130, descriptorIndex := 70, attributes := #[] }, { accessFlags := 2, nameIndex := 94, descriptorIndex := 95, attributes := #[] }, { accessFlags := 2, nameIndex := 106, descriptorIndex := 70, attributes := #[] }, { accessFlags := 2, nameIndex := 76, descriptorIndex := 77, attributes := #[] }, { accessFlags := 2, nameIndex := 124, descriptorIndex := 47, attributes := #[] }, { accessFlags := 2, nameIndex := 127, descriptorIndex := 99, attributes := #[] }, { accessFlags := 2, nameIndex := 120, descriptorIndex := 121, attributes := #[] }, { accessFlags := 2, nameIndex := 109, descriptorIndex := 47, attributes := #[] }, { accessFlags := 2, nameIndex := 133, descriptorIndex := 81, attributes := #[] }, { accessFlags := 2, nameIndex := 112, descriptorIndex := 99, attributes := #[] }, { accessFlags := 2, nameIndex := 136, descriptorIndex := 137, attributes := #[] }, { accessFlags := 2, nameIndex := 80, descriptorIndex := 81, attributes := #[] }, { accessFlags := 2, nameIndex := 102, descriptorIndex := 103, attributes := #[] }, { accessFlags := 2, nameIndex := 98, descriptorIndex := 99, attributes := #[] }, { accessFlags := 2, nameIndex := 140, descriptorIndex := 121, attributes := #[] }, { accessFlags := 2, nameIndex := 146, descriptorIndex := 47, attributes := #[] }, { accessFlags := 2, nameIndex := 149, descriptorIndex := 99, attributes := #[] }, { accessFlags := 2, nameIndex := 84, descriptorIndex := 85, attributes := #[] }, { accessFlags := 2, nameIndex := 143, descriptorIndex := 70, attributes := #[] }, { accessFlags := 2, nameIndex := 158, descriptorIndex := 159, attributes := #[] }, { accessFlags := 2, nameIndex := 162, descriptorIndex := 159, attributes := #[] }, { accessFlags := 2, nameIndex := 168, descriptorIndex := 47, attributes := #[] }, { accessFlags := 2, nameIndex := 152, descriptorIndex := 81, attributes := #[] }, { accessFlags := 2, nameIndex := 155, descriptorIndex := 121, attributes := #[] }, { accessFlags := 2, nameIndex := 171, descriptorIndex := 81, attributes := #[] }, { accessFlags := 2, nameIndex := 165, descriptorIndex := 85, attributes := #[] }, { accessFlags := 2, nameIndex := 174, descriptorIndex := 103, attributes := #[] }] 49 2 #[] #[{ accessFlags := 25, nameIndex := 179, descriptorIndex := 51, attributes := #[] }, { accessFlags := 25, nameIndex := 182, descriptorIndex := 51, attributes := #[] }, { accessFlags := 25, nameIndex := 184, descriptorIndex := 51, attributes := #[] }, { accessFlags := 25, nameIndex := 186, descriptorIndex := 51, attributes := #[] }, { accessFlags := 25, nameIndex := 188, descriptorIndex := 51, attributes := #[] }, { accessFlags := 25, nameIndex := 190, descriptorIndex := 51, attributes := #[] }, { accessFlags := 25, nameIndex := 191, descriptorIndex := 51, attributes := #[] }, { accessFlags := 25, nameIndex := 192, descriptorIndex := 51, attributes := #[] }, { accessFlags := 25, nameIndex := 193, descriptorIndex := 51, attributes := #[] }, { accessFlags := 25, nameIndex := 194, descriptorIndex := 51, attributes := #[] }, { accessFlags := 25, nameIndex := 196, descriptorIndex := 51, attributes := #[] }, { accessFlags := 25, nameIndex := 197, descriptorIndex := 51, attributes := #[] }, { accessFlags := 25, nameIndex := 198, descriptorIndex := 51, attributes := #[] }, { accessFlags := 25, nameIndex := 199, descriptorIndex := 51, attributes := #[] }, { accessFlags := 25, nameIndex := 200, descriptorIndex := 51, attributes := #[] }, { accessFlags := 25, nameIndex := 201, descriptorIndex := 51, attributes := #[] }, { accessFlags := 25, nameIndex := 203, descriptorIndex := 204, attributes := #[] }, { accessFlags := 25, nameIndex := 205, descriptorIndex := 204, attributes := #[] }, { accessFlags := 2, nameIndex := 50, descriptorIndex := 51, attributes := #[] }, { accessFlags := 2, nameIndex := 54, descriptorIndex := 51, attributes := #[] }, { accessFlags := 2, nameIndex := 57, descriptorIndex := 51, attributes := #[] }, { accessFlags := 2, nameIndex := 60, descriptorIndex := 51, attributes := #[] }, { accessFlags := 2, nameIndex := 11, descriptorIndex := 12, attributes := #[] }, { accessFlags := 2, nameIndex := 15, descriptorIndex := 12, attributes := #[] }, { accessFlags := 2, nameIndex := 18, descriptorIndex := 12, attributes := #[] }, { accessFlags := 2, nameIndex := 21, descriptorIndex := 12, attributes := #[] }, { accessFlags := 2, nameIndex := 24, descriptorIndex := 12, attributes := #[] }, { accessFlags := 2, nameIndex := 27, descriptorIndex := 12, attributes := #[] }, { accessFlags := 2, nameIndex := 30, descriptorIndex := 12, attributes := #[] }, { accessFlags := 2, nameIndex := 33, descriptorIndex := 34, attributes := #[] }, { accessFlags := 2, nameIndex := 37, descriptorIndex := 12, attributes := #[] }, { accessFlags := 2, nameIndex := 40, descriptorIndex := 12, attributes := #[] }, { accessFlags := 2, nameIndex := 43, descriptorIndex := 12, attributes := #[] }])
  fields := #[{ name := "N", type := .int, accessFlags := 25, slot := 0, constantValue := 0 }, { name := "REPORT", type := .int, accessFlags := 25, slot := 1, constantValue := 0 }, { name := "PROPOSAL", type := .int, accessFlags := 25, slot := 2, constantValue := 0 }, { name := "NONE", type := .int, accessFlags := 25, slot := 3, constantValue := 0 }, { name := "BOTTOM", type := .int, accessFlags := 25, slot := 4, constantValue := 0 }, { name := "UNDECIDED", type := .int, accessFlags := 25, slot := 5, constantValue := 0 }, { name := "IDLE", type := .int, accessFlags := 25, slot := 6, constantValue := 0 }, { name := "RUNNING", type := .int, accessFlags := 25, slot := 7, constantValue := 0 }, { name := "DONE", type := .int, accessFlags := 25, slot := 8, constantValue := 0 }, { name := "CRASHED", type := .int, accessFlags := 25, slot := 9, constantValue := 0 }, { name := "NOT_SENT", type := .int, accessFlags := 25, slot := 10, constantValue := 0 }, { name := "IN_TRANSIT", type := .int, accessFlags := 25, slot := 11, constantValue := 0 }, { name := "DELIVERED", type := .int, accessFlags := 25, slot := 12, constantValue := 0 }, { name := "LOST", type := .int, accessFlags := 25, slot := 13, constantValue := 0 }, { name := "MAX_FAULTS", type := .int, accessFlags := 25, slot := 14, constantValue := 0 }, { name := "MAX_ROUNDS", type := .int, accessFlags := 25, slot := 15, constantValue := 0 }, { name := "COIN_MUL", type := .long, accessFlags := 25, slot := 16, constantValue := 0 }, { name := "COIN_ADD", type := .long, accessFlags := 25, slot := 17, constantValue := 0 }, { name := "faultLimit", type := .int, accessFlags := 2, slot := 0, constantValue := 0 }, { name := "roundLimit", type := .int, accessFlags := 2, slot := 1, constantValue := 0 }, { name := "quorum", type := .int, accessFlags := 2, slot := 2, constantValue := 0 }, { name := "crashTotal", type := .int, accessFlags := 2, slot := 3, constantValue := 0 }, { name := "procStatus", type := (.array .int), accessFlags := 2, slot := 4, constantValue := 0 }, { name := "procInput", type := (.array .int), accessFlags := 2, slot := 5, constantValue := 0 }, { name := "procEstimate", type := (.array .int), accessFlags := 2, slot := 6, constantValue := 0 }, { name := "procRound", type := (.array .int), accessFlags := 2, slot := 7, constantValue := 0 }, { name := "procPhase", type := (.array .int), accessFlags := 2, slot := 8, constantValue := 0 }, { name := "procDecision", type := (.array .int), accessFlags := 2, slot := 9, constantValue := 0 }, { name := "procDecisionRound", type := (.array .int), accessFlags := 2, slot := 10, constantValue := 0 }, { name := "procCoin", type := (.array .long), accessFlags := 2, slot := 11, constantValue := 0 }, { name := "procFlips", type := (.array .int), accessFlags := 2, slot := 12, constantValue := 0 }, { name := "sentValues", type := (.array .int), accessFlags := 2, slot := 13, constantValue := 0 }, { name := "copyStates", type := (.array .int), accessFlags := 2, slot := 14, constantValue := 0 }]
  methods := #[k2m0, k2m1, k2m2, k2m3, k2m4, k2m5, k2m6, k2m7, k2m8, k2m9, k2m10, k2m11, k2m12, k2m13, k2m14, k2m15, k2m16, k2m17, k2m18, k2m19, k2m20, k2m21, k2m22, k2m23, k2m24, k2m25, k2m26, k2m27, k2m28, k2m29, k2m30, k2m31, k2m32, k2m33, k2m34, k2m35, k2m36, k2m37, k2m38, k2m39, k2m40, k2m41]
  instanceTypes := #[.int, .int, .int, .int, (.array .int), (.array .int), (.array .int), (.array .int), (.array .int), (.array .int), (.array .int), (.array .long), (.array .int), (.array .int), (.array .int)]
  staticTypes := #[.int, .int, .int, .int, .int, .int, .int, .int, .int, .int, .int, .int, .int, .int, .int, .int, .long, .long]
  resolved := Array.replicate 229 none
  statics := none }

def pool3 : Array CpInfo := pool [(1, u "java/lang/Cloneable"), (0, .class_ 1), (0, u "java/lang/Object"), (0, .class_ 3)] 3

/-- java/lang/Cloneable -/
def k3 : Class := { plain "java/lang/Cloneable" (some 0) with
  accessFlags := 1537
  interfaces := #[]
  cf := some (fileOf pool3 2 #[] #[] 1537 4 #[] #[])
  fields := #[]
  methods := #[]
  instanceTypes := #[]
  staticTypes := #[]
  resolved := Array.replicate 8 none
  statics := none }

def pool4 : Array CpInfo := pool [(1, u "java/io/Serializable"), (0, .class_ 1), (0, u "java/lang/Object"), (0, .class_ 3)] 3

/-- java/io/Serializable -/
def k4 : Class := { plain "java/io/Serializable" (some 0) with
  accessFlags := 1537
  interfaces := #[]
  cf := some (fileOf pool4 2 #[] #[] 1537 4 #[] #[])
  fields := #[]
  methods := #[]
  instanceTypes := #[]
  staticTypes := #[]
  resolved := Array.replicate 8 none
  statics := none }

/-- the primitive byte -/
def k5 : Class := { plain "byte" none with kind := .primitive 'B', accessFlags := 0x411 }
/-- [B -/
def k6 : Class := { plain "[B" (some 0) with kind := .array 5 .byte, interfaces := #[3, 4], accessFlags := 1041 }

/-- the primitive int -/
def k7 : Class := { plain "int" none with kind := .primitive 'I', accessFlags := 0x411 }
/-- [I -/
def k8 : Class := { plain "[I" (some 0) with kind := .array 7 .int, interfaces := #[3, 4], accessFlags := 1041 }

/-- the primitive long -/
def k9 : Class := { plain "long" none with kind := .primitive 'J', accessFlags := 0x411 }
/-- [J -/
def k10 : Class := { plain "[J" (some 0) with kind := .array 9 .long, interfaces := #[3, 4], accessFlags := 1041 }

def heap : Heap := #[{ cls := 8, slots := #[.int 1, .int 2, .int 3], vm := .none }]
def classes : Array Class := #[k0, k1, k2, k3, k4, k5, k6, k7, k8, k9, k10]
def interned : List (Array UInt16 × Addr) := []
def slotsUsed : Nat := 3
def theMethod : MethodId := ⟨1, 4⟩
def args0 : Array Value := #[.ref 0]
def aboutOver (below : List Frame) : State where
  vm := { classes := classes, interned := interned.toArray }
  heap := heap
  slotsUsed := slotsUsed
  threads := #[{ frames := .invoking theMethod args0 :: below }]
def below0 : List Frame := [.native { method := ⟨0, 0⟩, args := #[] }]
def about1 : State := aboutOver below0
def p0 : Program := .bare "" "" ""
def e0 : Env := launch0.env 0 0 0
theorem w_frames : about1.frames = Frame.invoking theMethod args0 :: below0 := rfl
set_option maxRecDepth 65536 in
theorem w_args : argsFit about1.vm theMethod args0 = true := by decide +kernel
set_option maxRecDepth 65536 in
theorem w_heap : heapFits about1 = true := by decide +kernel
set_option maxRecDepth 65536 in
theorem w_runnable : about1.curStatus? = some .runnable := by decide +kernel
set_option maxRecDepth 65536 in
theorem w_alone : about1.alone = true := by decide +kernel
set_option maxRecDepth 65536 in
theorem w_named : about1.methodNamed? x = some theMethod := by decide +kernel
set_option maxRecDepth 65536 in
theorem w_hears : about1.hears theMethod below0 = true := by decide +kernel
set_option maxRecDepth 65536 in
theorem w_ripe : about1.ripe theMethod args0 below0 = true := by decide +kernel
theorem w_running : about1.status = .running := rfl
set_option maxRecDepth 65536 in
theorem w_room : about1.hasRoom e0.platform room_1 = true :=
  launch0.hasRoom_least _ room_1 (by decide +kernel) (by decide +kernel) (by decide +kernel) (by decide +kernel) (by decide +kernel) (by decide +kernel)
theorem allAtoms_all (ts : List Jvm.Cond) (a : Array Jvm.Value) (st : Jvm.State) : (allAtoms ts).before a st = ts.all (fun c => c.before a st) := by
  induction ts with
  | nil => rfl
  | cons c t ih =>
    show (Jvm.Cond.and c (allAtoms t)).before a st = _
    rw [Jvm.Cond.before_and, ih, List.all_cons]
def words1 : List Jvm.Cond := Jvm.Cond.code x code maxLocals ret :: tables_1
/-- a 'code' word, met by the world's own term for the bytes: nothing is compared byte by byte -/
theorem code_word {y : MethodName} {bytes : ByteArray} {mx : Nat} {rt : Option FieldType} {a : Array Value} {s : State} {m : MethodId} {meth : Method} {c : Code} (h1 : s.methodNamed? y = some m) (h2 : s.vm.method? m = some meth) (h3 : meth.code = some c) (h4 : c.code = bytes)
    (h5 : (c.maxLocals == mx && c.exceptionTable.isEmpty && decide (c.maxStack ≤ mostOperands) && decide (meth.sig.returnType = rt) && !meth.locks && decide (parseMethodDescriptor y.desc = some meth.sig)) = true) : (Jvm.Cond.code y bytes mx rt).before a s = true := by
  simp only [Bool.and_eq_true, beq_iff_eq, Bool.not_eq_true', decide_eq_true_eq] at h5
  obtain ⟨⟨⟨⟨⟨g1, g2⟩, g3⟩, g4⟩, g5⟩, g6⟩ := h5
  simp [Cond.before, Cond.holds, Cond.value, h1, h2, h3, h4, g1, g2, g3, g4, g5, g6]
def isCode : Jvm.Cond → Bool
  | .code _ _ _ _ => true
  | _ => false
theorem all_split {L : List Jvm.Cond} {P : Jvm.Cond → Bool} (h1 : L.all (fun c => isCode c || P c) = true) (h2 : ∀ c ∈ L.filter isCode, P c = true) : L.all P = true := by
  refine List.all_eq_true.mpr fun c hc => ?_
  have h := List.all_eq_true.mp h1 c hc
  rcases Bool.eq_false_or_eq_true (isCode c) with hi | hi
  · exact h2 c (List.mem_filter.mpr ⟨hc, hi⟩)
  · simpa [hi] using h
set_option maxRecDepth 65536 in
theorem w_c0 : (Jvm.Cond.code x code maxLocals ret).before args0 about1 = true := code_word (m := ⟨1, 4⟩) (meth := k1m4) (c := k1c4) (by decide +kernel) rfl rfl rfl (by decide +kernel)
set_option maxRecDepth 65536 in
theorem w_c1 : (Jvm.Cond.code ({ cls := "RandomConsensusOwnLaw", name := "cell", desc := "([II)I" } : Jvm.MethodName) method_2_code (2 : Nat) (Option.some Jvm.ClassFile.FieldType.int)).before args0 about1 = true := code_word (m := ⟨1, 1⟩) (meth := k1m1) (c := k1c1) (by decide +kernel) rfl rfl rfl (by decide +kernel)
set_option maxRecDepth 65536 in
theorem w_c2 : (Jvm.Cond.code ({ cls := "RandomConsensus", name := "<init>", desc := "(II)V" } : Jvm.MethodName) prog_1_method_1_code (3 : Nat) (Option.none : Option Jvm.ClassFile.FieldType)).before args0 about1 = true := code_word (m := ⟨2, 0⟩) (meth := k2m0) (c := k2c0) (by decide +kernel) rfl rfl rfl (by decide +kernel)
set_option maxRecDepth 65536 in
theorem w_c3 : (Jvm.Cond.code ({ cls := "java/lang/Object", name := "<init>", desc := "()V" } : Jvm.MethodName) object_method_1_code (1 : Nat) (Option.none : Option Jvm.ClassFile.FieldType)).before args0 about1 = true := code_word (m := ⟨0, 0⟩) (meth := k0m0) (c := k0c0) (by decide +kernel) rfl rfl rfl (by decide +kernel)
set_option maxRecDepth 65536 in
theorem w_c4 : (Jvm.Cond.code ({ cls := "RandomConsensus", name := "clamp", desc := "(III)I" } : Jvm.MethodName) prog_1_method_20_code (4 : Nat) (Option.some Jvm.ClassFile.FieldType.int)).before args0 about1 = true := code_word (m := ⟨2, 10⟩) (meth := k2m10) (c := k2c10) (by decide +kernel) rfl rfl rfl (by decide +kernel)
set_option maxRecDepth 65536 in
theorem w_c5 : (Jvm.Cond.code ({ cls := "RandomConsensus", name := "resetAllProcesses", desc := "()V" } : Jvm.MethodName) prog_1_method_17_code (2 : Nat) (Option.none : Option Jvm.ClassFile.FieldType)).before args0 about1 = true := code_word (m := ⟨2, 7⟩) (meth := k2m7) (c := k2c7) (by decide +kernel) rfl rfl rfl (by decide +kernel)
set_option maxRecDepth 65536 in
theorem w_c6 : (Jvm.Cond.code ({ cls := "RandomConsensus", name := "resetProcess", desc := "(I)V" } : Jvm.MethodName) prog_1_method_18_code (2 : Nat) (Option.none : Option Jvm.ClassFile.FieldType)).before args0 about1 = true := code_word (m := ⟨2, 8⟩) (meth := k2m8) (c := k2c8) (by decide +kernel) rfl rfl rfl (by decide +kernel)
set_option maxRecDepth 65536 in
theorem w_c7 : (Jvm.Cond.code ({ cls := "RandomConsensus", name := "validProcess", desc := "(I)Z" } : Jvm.MethodName) prog_1_method_21_code (2 : Nat) (Option.some Jvm.ClassFile.FieldType.boolean)).before args0 about1 = true := code_word (m := ⟨2, 11⟩) (meth := k2m11) (c := k2c11) (by decide +kernel) rfl rfl rfl (by decide +kernel)
set_option maxRecDepth 65536 in
theorem w_c8 : (Jvm.Cond.code ({ cls := "RandomConsensus", name := "resetAllMessages", desc := "()V" } : Jvm.MethodName) prog_1_method_19_code (2 : Nat) (Option.none : Option Jvm.ClassFile.FieldType)).before args0 about1 = true := code_word (m := ⟨2, 9⟩) (meth := k2m9) (c := k2c9) (by decide +kernel) rfl rfl rfl (by decide +kernel)
set_option maxRecDepth 65536 in
theorem w_c9 : (Jvm.Cond.code ({ cls := "RandomConsensusOwnLaw", name := "check", desc := "(LRandomConsensus;JI)J" } : Jvm.MethodName) method_4_code (13 : Nat) (Option.some Jvm.ClassFile.FieldType.long)).before args0 about1 = true := code_word (m := ⟨1, 3⟩) (meth := k1m3) (c := k1c3) (by decide +kernel) rfl rfl rfl (by decide +kernel)
set_option maxRecDepth 65536 in
theorem w_c10 : (Jvm.Cond.code ({ cls := "RandomConsensus", name := "decision", desc := "(I)I" } : Jvm.MethodName) prog_1_method_10_code (2 : Nat) (Option.some Jvm.ClassFile.FieldType.int)).before args0 about1 = true := code_word (m := ⟨2, 5⟩) (meth := k2m5) (c := k2c5) (by decide +kernel) rfl rfl rfl (by decide +kernel)
set_option maxRecDepth 65536 in
theorem w_c11 : (Jvm.Cond.code ({ cls := "RandomConsensus", name := "decisionRound", desc := "(I)I" } : Jvm.MethodName) prog_1_method_11_code (2 : Nat) (Option.some Jvm.ClassFile.FieldType.int)).before args0 about1 = true := code_word (m := ⟨2, 6⟩) (meth := k2m6) (c := k2c6) (by decide +kernel) rfl rfl rfl (by decide +kernel)
set_option maxRecDepth 65536 in
theorem w_c12 : (Jvm.Cond.code ({ cls := "RandomConsensus", name := "setInput", desc := "(IIII)Z" } : Jvm.MethodName) prog_1_method_2_code (5 : Nat) (Option.some Jvm.ClassFile.FieldType.boolean)).before args0 about1 = true := code_word (m := ⟨2, 1⟩) (meth := k2m1) (c := k2c1) (by decide +kernel) rfl rfl rfl (by decide +kernel)
set_option maxRecDepth 65536 in
theorem w_c13 : (Jvm.Cond.code ({ cls := "RandomConsensus", name := "validInputValue", desc := "(I)Z" } : Jvm.MethodName) prog_1_method_24_code (2 : Nat) (Option.some Jvm.ClassFile.FieldType.boolean)).before args0 about1 = true := code_word (m := ⟨2, 14⟩) (meth := k2m14) (c := k2c14) (by decide +kernel) rfl rfl rfl (by decide +kernel)
set_option maxRecDepth 65536 in
theorem w_c14 : (Jvm.Cond.code ({ cls := "RandomConsensus", name := "composeSeed", desc := "(II)J" } : Jvm.MethodName) prog_1_method_28_code (7 : Nat) (Option.some Jvm.ClassFile.FieldType.long)).before args0 about1 = true := code_word (m := ⟨2, 18⟩) (meth := k2m18) (c := k2c18) (by decide +kernel) rfl rfl rfl (by decide +kernel)
set_option maxRecDepth 65536 in
theorem w_c15 : (Jvm.Cond.code ({ cls := "RandomConsensus", name := "broadcast", desc := "(IIII)V" } : Jvm.MethodName) prog_1_method_36_code (6 : Nat) (Option.none : Option Jvm.ClassFile.FieldType)).before args0 about1 = true := code_word (m := ⟨2, 26⟩) (meth := k2m26) (c := k2c26) (by decide +kernel) rfl rfl rfl (by decide +kernel)
set_option maxRecDepth 65536 in
theorem w_c16 : (Jvm.Cond.code ({ cls := "RandomConsensus", name := "validMessageValue", desc := "(I)Z" } : Jvm.MethodName) prog_1_method_25_code (2 : Nat) (Option.some Jvm.ClassFile.FieldType.boolean)).before args0 about1 = true := code_word (m := ⟨2, 15⟩) (meth := k2m15) (c := k2c15) (by decide +kernel) rfl rfl rfl (by decide +kernel)
set_option maxRecDepth 65536 in
theorem w_c17 : (Jvm.Cond.code ({ cls := "RandomConsensus", name := "writeSent", desc := "(IIII)V" } : Jvm.MethodName) prog_1_method_33_code (5 : Nat) (Option.none : Option Jvm.ClassFile.FieldType)).before args0 about1 = true := code_word (m := ⟨2, 23⟩) (meth := k2m23) (c := k2c23) (by decide +kernel) rfl rfl rfl (by decide +kernel)
set_option maxRecDepth 65536 in
theorem w_c18 : (Jvm.Cond.code ({ cls := "RandomConsensus", name := "validSlot", desc := "(IIII)Z" } : Jvm.MethodName) prog_1_method_31_code (5 : Nat) (Option.some Jvm.ClassFile.FieldType.boolean)).before args0 about1 = true := code_word (m := ⟨2, 21⟩) (meth := k2m21) (c := k2c21) (by decide +kernel) rfl rfl rfl (by decide +kernel)
set_option maxRecDepth 65536 in
theorem w_c19 : (Jvm.Cond.code ({ cls := "RandomConsensus", name := "validRound", desc := "(I)Z" } : Jvm.MethodName) prog_1_method_22_code (2 : Nat) (Option.some Jvm.ClassFile.FieldType.boolean)).before args0 about1 = true := code_word (m := ⟨2, 12⟩) (meth := k2m12) (c := k2c12) (by decide +kernel) rfl rfl rfl (by decide +kernel)
set_option maxRecDepth 65536 in
theorem w_c20 : (Jvm.Cond.code ({ cls := "RandomConsensus", name := "validPhase", desc := "(I)Z" } : Jvm.MethodName) prog_1_method_23_code (2 : Nat) (Option.some Jvm.ClassFile.FieldType.boolean)).before args0 about1 = true := code_word (m := ⟨2, 13⟩) (meth := k2m13) (c := k2c13) (by decide +kernel) rfl rfl rfl (by decide +kernel)
set_option maxRecDepth 65536 in
theorem w_c21 : (Jvm.Cond.code ({ cls := "RandomConsensus", name := "sentIndex", desc := "(III)I" } : Jvm.MethodName) prog_1_method_29_code (4 : Nat) (Option.some Jvm.ClassFile.FieldType.int)).before args0 about1 = true := code_word (m := ⟨2, 19⟩) (meth := k2m19) (c := k2c19) (by decide +kernel) rfl rfl rfl (by decide +kernel)
set_option maxRecDepth 65536 in
theorem w_c22 : (Jvm.Cond.code ({ cls := "RandomConsensus", name := "writeCopy", desc := "(IIIII)V" } : Jvm.MethodName) prog_1_method_35_code (6 : Nat) (Option.none : Option Jvm.ClassFile.FieldType)).before args0 about1 = true := code_word (m := ⟨2, 25⟩) (meth := k2m25) (c := k2c25) (by decide +kernel) rfl rfl rfl (by decide +kernel)
set_option maxRecDepth 65536 in
theorem w_c23 : (Jvm.Cond.code ({ cls := "RandomConsensus", name := "copyIndex", desc := "(IIII)I" } : Jvm.MethodName) prog_1_method_30_code (5 : Nat) (Option.some Jvm.ClassFile.FieldType.int)).before args0 about1 = true := code_word (m := ⟨2, 20⟩) (meth := k2m20) (c := k2c20) (by decide +kernel) rfl rfl rfl (by decide +kernel)
set_option maxRecDepth 65536 in
theorem w_c24 : (Jvm.Cond.code ({ cls := "RandomConsensus", name := "step", desc := "(I)V" } : Jvm.MethodName) prog_1_method_42_code (4 : Nat) (Option.none : Option Jvm.ClassFile.FieldType)).before args0 about1 = true := code_word (m := ⟨2, 32⟩) (meth := k2m32) (c := k2c32) (by decide +kernel) rfl rfl rfl (by decide +kernel)
set_option maxRecDepth 65536 in
theorem w_c25 : (Jvm.Cond.code ({ cls := "RandomConsensus", name := "stepOnce", desc := "(I)Z" } : Jvm.MethodName) prog_1_method_43_code (6 : Nat) (Option.some Jvm.ClassFile.FieldType.boolean)).before args0 about1 = true := code_word (m := ⟨2, 33⟩) (meth := k2m33) (c := k2c33) (by decide +kernel) rfl rfl rfl (by decide +kernel)
set_option maxRecDepth 65536 in
theorem w_c26 : (Jvm.Cond.code ({ cls := "RandomConsensus", name := "heldCount", desc := "(III)I" } : Jvm.MethodName) prog_1_method_40_code (6 : Nat) (Option.some Jvm.ClassFile.FieldType.int)).before args0 about1 = true := code_word (m := ⟨2, 30⟩) (meth := k2m30) (c := k2c30) (by decide +kernel) rfl rfl rfl (by decide +kernel)
set_option maxRecDepth 65536 in
theorem w_c27 : (Jvm.Cond.code ({ cls := "RandomConsensus", name := "readCopy", desc := "(IIII)I" } : Jvm.MethodName) prog_1_method_34_code (5 : Nat) (Option.some Jvm.ClassFile.FieldType.int)).before args0 about1 = true := code_word (m := ⟨2, 24⟩) (meth := k2m24) (c := k2c24) (by decide +kernel) rfl rfl rfl (by decide +kernel)
set_option maxRecDepth 65536 in
theorem w_c28 : (Jvm.Cond.code ({ cls := "RandomConsensus", name := "deliver", desc := "(IIII)I" } : Jvm.MethodName) prog_1_method_3_code (7 : Nat) (Option.some Jvm.ClassFile.FieldType.int)).before args0 about1 = true := code_word (m := ⟨2, 2⟩) (meth := k2m2) (c := k2c2) (by decide +kernel) rfl rfl rfl (by decide +kernel)
set_option maxRecDepth 65536 in
theorem w_c29 : (Jvm.Cond.code ({ cls := "RandomConsensus", name := "bitSet", desc := "(II)Z" } : Jvm.MethodName) prog_1_method_26_code (3 : Nat) (Option.some Jvm.ClassFile.FieldType.boolean)).before args0 about1 = true := code_word (m := ⟨2, 16⟩) (meth := k2m16) (c := k2c16) (by decide +kernel) rfl rfl rfl (by decide +kernel)
set_option maxRecDepth 65536 in
theorem w_c30 : (Jvm.Cond.code ({ cls := "RandomConsensus", name := "deliverToReceiver", desc := "(IIII)I" } : Jvm.MethodName) prog_1_method_38_code (7 : Nat) (Option.some Jvm.ClassFile.FieldType.int)).before args0 about1 = true := code_word (m := ⟨2, 28⟩) (meth := k2m28) (c := k2c28) (by decide +kernel) rfl rfl rfl (by decide +kernel)
set_option maxRecDepth 65536 in
theorem w_c31 : (Jvm.Cond.code ({ cls := "RandomConsensus", name := "deliverPair", desc := "(IIII)Z" } : Jvm.MethodName) prog_1_method_39_code (5 : Nat) (Option.some Jvm.ClassFile.FieldType.boolean)).before args0 about1 = true := code_word (m := ⟨2, 29⟩) (meth := k2m29) (c := k2c29) (by decide +kernel) rfl rfl rfl (by decide +kernel)
set_option maxRecDepth 65536 in
theorem w_c32 : (Jvm.Cond.code ({ cls := "RandomConsensusOwnLaw", name := "mod", desc := "(II)I" } : Jvm.MethodName) method_3_code (2 : Nat) (Option.some Jvm.ClassFile.FieldType.int)).before args0 about1 = true := code_word (m := ⟨1, 2⟩) (meth := k1m2) (c := k1c2) (by decide +kernel) rfl rfl rfl (by decide +kernel)
set_option maxRecDepth 65536 in
theorem w_c33 : (Jvm.Cond.code ({ cls := "RandomConsensus", name := "crash", desc := "(II)Z" } : Jvm.MethodName) prog_1_method_4_code (4 : Nat) (Option.some Jvm.ClassFile.FieldType.boolean)).before args0 about1 = true := code_word (m := ⟨2, 3⟩) (meth := k2m3) (c := k2c3) (by decide +kernel) rfl rfl rfl (by decide +kernel)
set_option maxRecDepth 65536 in
theorem w_c34 : (Jvm.Cond.code ({ cls := "RandomConsensus", name := "loseCopies", desc := "(II)V" } : Jvm.MethodName) prog_1_method_37_code (5 : Nat) (Option.none : Option Jvm.ClassFile.FieldType)).before args0 about1 = true := code_word (m := ⟨2, 27⟩) (meth := k2m27) (c := k2c27) (by decide +kernel) rfl rfl rfl (by decide +kernel)
set_option maxRecDepth 65536 in
theorem w_c35 : (Jvm.Cond.code ({ cls := "RandomConsensus", name := "heldValueCount", desc := "(IIII)I" } : Jvm.MethodName) prog_1_method_41_code (7 : Nat) (Option.some Jvm.ClassFile.FieldType.int)).before args0 about1 = true := code_word (m := ⟨2, 31⟩) (meth := k2m31) (c := k2c31) (by decide +kernel) rfl rfl rfl (by decide +kernel)
set_option maxRecDepth 65536 in
theorem w_c36 : (Jvm.Cond.code ({ cls := "RandomConsensus", name := "readSent", desc := "(III)I" } : Jvm.MethodName) prog_1_method_32_code (4 : Nat) (Option.some Jvm.ClassFile.FieldType.int)).before args0 about1 = true := code_word (m := ⟨2, 22⟩) (meth := k2m22) (c := k2c22) (by decide +kernel) rfl rfl rfl (by decide +kernel)
set_option maxRecDepth 65536 in
theorem w_c37 : (Jvm.Cond.code ({ cls := "RandomConsensus", name := "finishReportPhase", desc := "(IIII)V" } : Jvm.MethodName) prog_1_method_47_code (6 : Nat) (Option.none : Option Jvm.ClassFile.FieldType)).before args0 about1 = true := code_word (m := ⟨2, 37⟩) (meth := k2m37) (c := k2c37) (by decide +kernel) rfl rfl rfl (by decide +kernel)
set_option maxRecDepth 65536 in
theorem w_c38 : (Jvm.Cond.code ({ cls := "RandomConsensus", name := "reportOutcome", desc := "(II)I" } : Jvm.MethodName) prog_1_method_44_code (3 : Nat) (Option.some Jvm.ClassFile.FieldType.int)).before args0 about1 = true := code_word (m := ⟨2, 34⟩) (meth := k2m34) (c := k2c34) (by decide +kernel) rfl rfl rfl (by decide +kernel)
set_option maxRecDepth 65536 in
theorem w_c39 : (Jvm.Cond.code ({ cls := "RandomConsensus", name := "finishProposalPhase", desc := "(IIII)Z" } : Jvm.MethodName) prog_1_method_48_code (7 : Nat) (Option.some Jvm.ClassFile.FieldType.boolean)).before args0 about1 = true := code_word (m := ⟨2, 38⟩) (meth := k2m38) (c := k2c38) (by decide +kernel) rfl rfl rfl (by decide +kernel)
set_option maxRecDepth 65536 in
theorem w_c40 : (Jvm.Cond.code ({ cls := "RandomConsensus", name := "proposalOutcome", desc := "(II)I" } : Jvm.MethodName) prog_1_method_45_code (3 : Nat) (Option.some Jvm.ClassFile.FieldType.int)).before args0 about1 = true := code_word (m := ⟨2, 35⟩) (meth := k2m35) (c := k2c35) (by decide +kernel) rfl rfl rfl (by decide +kernel)
set_option maxRecDepth 65536 in
theorem w_c41 : (Jvm.Cond.code ({ cls := "RandomConsensus", name := "countFor", desc := "(III)I" } : Jvm.MethodName) prog_1_method_46_code (4 : Nat) (Option.some Jvm.ClassFile.FieldType.int)).before args0 about1 = true := code_word (m := ⟨2, 36⟩) (meth := k2m36) (c := k2c36) (by decide +kernel) rfl rfl rfl (by decide +kernel)
set_option maxRecDepth 65536 in
theorem w_c42 : (Jvm.Cond.code ({ cls := "RandomConsensus", name := "adoptValue", desc := "(IIII)V" } : Jvm.MethodName) prog_1_method_49_code (5 : Nat) (Option.none : Option Jvm.ClassFile.FieldType)).before args0 about1 = true := code_word (m := ⟨2, 39⟩) (meth := k2m39) (c := k2c39) (by decide +kernel) rfl rfl rfl (by decide +kernel)
set_option maxRecDepth 65536 in
theorem w_c43 : (Jvm.Cond.code ({ cls := "RandomConsensus", name := "startRound", desc := "(II)V" } : Jvm.MethodName) prog_1_method_51_code (3 : Nat) (Option.none : Option Jvm.ClassFile.FieldType)).before args0 about1 = true := code_word (m := ⟨2, 41⟩) (meth := k2m41) (c := k2c41) (by decide +kernel) rfl rfl rfl (by decide +kernel)
set_option maxRecDepth 65536 in
theorem w_c44 : (Jvm.Cond.code ({ cls := "RandomConsensus", name := "inputOf", desc := "(I)I" } : Jvm.MethodName) prog_1_method_9_code (2 : Nat) (Option.some Jvm.ClassFile.FieldType.int)).before args0 about1 = true := code_word (m := ⟨2, 4⟩) (meth := k2m4) (c := k2c4) (by decide +kernel) rfl rfl rfl (by decide +kernel)
set_option maxRecDepth 65536 in
theorem w_c45 : (Jvm.Cond.code ({ cls := "RandomConsensus", name := "hasInput", desc := "(I)Z" } : Jvm.MethodName) prog_1_method_27_code (2 : Nat) (Option.some Jvm.ClassFile.FieldType.boolean)).before args0 about1 = true := code_word (m := ⟨2, 17⟩) (meth := k2m17) (c := k2c17) (by decide +kernel) rfl rfl rfl (by decide +kernel)
set_option maxRecDepth 65536 in
theorem w_c46 : (Jvm.Cond.code ({ cls := "RandomConsensus", name := "drawCoin", desc := "(I)V" } : Jvm.MethodName) prog_1_method_50_code (4 : Nat) (Option.none : Option Jvm.ClassFile.FieldType)).before args0 about1 = true := code_word (m := ⟨2, 40⟩) (meth := k2m40) (c := k2c40) (by decide +kernel) rfl rfl rfl (by decide +kernel)
def codes1 : List Jvm.Cond := [Jvm.Cond.code x code maxLocals ret, Jvm.Cond.code ({ cls := "RandomConsensusOwnLaw", name := "cell", desc := "([II)I" } : Jvm.MethodName) method_2_code (2 : Nat) (Option.some Jvm.ClassFile.FieldType.int), Jvm.Cond.code ({ cls := "RandomConsensus", name := "<init>", desc := "(II)V" } : Jvm.MethodName) prog_1_method_1_code (3 : Nat) (Option.none : Option Jvm.ClassFile.FieldType), Jvm.Cond.code ({ cls := "java/lang/Object", name := "<init>", desc := "()V" } : Jvm.MethodName) object_method_1_code (1 : Nat) (Option.none : Option Jvm.ClassFile.FieldType), Jvm.Cond.code ({ cls := "RandomConsensus", name := "clamp", desc := "(III)I" } : Jvm.MethodName) prog_1_method_20_code (4 : Nat) (Option.some Jvm.ClassFile.FieldType.int), Jvm.Cond.code ({ cls := "RandomConsensus", name := "resetAllProcesses", desc := "()V" } : Jvm.MethodName) prog_1_method_17_code (2 : Nat) (Option.none : Option Jvm.ClassFile.FieldType), Jvm.Cond.code ({ cls := "RandomConsensus", name := "resetProcess", desc := "(I)V" } : Jvm.MethodName) prog_1_method_18_code (2 : Nat) (Option.none : Option Jvm.ClassFile.FieldType), Jvm.Cond.code ({ cls := "RandomConsensus", name := "validProcess", desc := "(I)Z" } : Jvm.MethodName) prog_1_method_21_code (2 : Nat) (Option.some Jvm.ClassFile.FieldType.boolean), Jvm.Cond.code ({ cls := "RandomConsensus", name := "resetAllMessages", desc := "()V" } : Jvm.MethodName) prog_1_method_19_code (2 : Nat) (Option.none : Option Jvm.ClassFile.FieldType), Jvm.Cond.code ({ cls := "RandomConsensusOwnLaw", name := "check", desc := "(LRandomConsensus;JI)J" } : Jvm.MethodName) method_4_code (13 : Nat) (Option.some Jvm.ClassFile.FieldType.long), Jvm.Cond.code ({ cls := "RandomConsensus", name := "decision", desc := "(I)I" } : Jvm.MethodName) prog_1_method_10_code (2 : Nat) (Option.some Jvm.ClassFile.FieldType.int), Jvm.Cond.code ({ cls := "RandomConsensus", name := "decisionRound", desc := "(I)I" } : Jvm.MethodName) prog_1_method_11_code (2 : Nat) (Option.some Jvm.ClassFile.FieldType.int), Jvm.Cond.code ({ cls := "RandomConsensus", name := "setInput", desc := "(IIII)Z" } : Jvm.MethodName) prog_1_method_2_code (5 : Nat) (Option.some Jvm.ClassFile.FieldType.boolean), Jvm.Cond.code ({ cls := "RandomConsensus", name := "validInputValue", desc := "(I)Z" } : Jvm.MethodName) prog_1_method_24_code (2 : Nat) (Option.some Jvm.ClassFile.FieldType.boolean), Jvm.Cond.code ({ cls := "RandomConsensus", name := "composeSeed", desc := "(II)J" } : Jvm.MethodName) prog_1_method_28_code (7 : Nat) (Option.some Jvm.ClassFile.FieldType.long), Jvm.Cond.code ({ cls := "RandomConsensus", name := "broadcast", desc := "(IIII)V" } : Jvm.MethodName) prog_1_method_36_code (6 : Nat) (Option.none : Option Jvm.ClassFile.FieldType), Jvm.Cond.code ({ cls := "RandomConsensus", name := "validMessageValue", desc := "(I)Z" } : Jvm.MethodName) prog_1_method_25_code (2 : Nat) (Option.some Jvm.ClassFile.FieldType.boolean), Jvm.Cond.code ({ cls := "RandomConsensus", name := "writeSent", desc := "(IIII)V" } : Jvm.MethodName) prog_1_method_33_code (5 : Nat) (Option.none : Option Jvm.ClassFile.FieldType), Jvm.Cond.code ({ cls := "RandomConsensus", name := "validSlot", desc := "(IIII)Z" } : Jvm.MethodName) prog_1_method_31_code (5 : Nat) (Option.some Jvm.ClassFile.FieldType.boolean), Jvm.Cond.code ({ cls := "RandomConsensus", name := "validRound", desc := "(I)Z" } : Jvm.MethodName) prog_1_method_22_code (2 : Nat) (Option.some Jvm.ClassFile.FieldType.boolean), Jvm.Cond.code ({ cls := "RandomConsensus", name := "validPhase", desc := "(I)Z" } : Jvm.MethodName) prog_1_method_23_code (2 : Nat) (Option.some Jvm.ClassFile.FieldType.boolean), Jvm.Cond.code ({ cls := "RandomConsensus", name := "sentIndex", desc := "(III)I" } : Jvm.MethodName) prog_1_method_29_code (4 : Nat) (Option.some Jvm.ClassFile.FieldType.int), Jvm.Cond.code ({ cls := "RandomConsensus", name := "writeCopy", desc := "(IIIII)V" } : Jvm.MethodName) prog_1_method_35_code (6 : Nat) (Option.none : Option Jvm.ClassFile.FieldType), Jvm.Cond.code ({ cls := "RandomConsensus", name := "copyIndex", desc := "(IIII)I" } : Jvm.MethodName) prog_1_method_30_code (5 : Nat) (Option.some Jvm.ClassFile.FieldType.int), Jvm.Cond.code ({ cls := "RandomConsensus", name := "step", desc := "(I)V" } : Jvm.MethodName) prog_1_method_42_code (4 : Nat) (Option.none : Option Jvm.ClassFile.FieldType), Jvm.Cond.code ({ cls := "RandomConsensus", name := "stepOnce", desc := "(I)Z" } : Jvm.MethodName) prog_1_method_43_code (6 : Nat) (Option.some Jvm.ClassFile.FieldType.boolean), Jvm.Cond.code ({ cls := "RandomConsensus", name := "heldCount", desc := "(III)I" } : Jvm.MethodName) prog_1_method_40_code (6 : Nat) (Option.some Jvm.ClassFile.FieldType.int), Jvm.Cond.code ({ cls := "RandomConsensus", name := "readCopy", desc := "(IIII)I" } : Jvm.MethodName) prog_1_method_34_code (5 : Nat) (Option.some Jvm.ClassFile.FieldType.int), Jvm.Cond.code ({ cls := "RandomConsensus", name := "deliver", desc := "(IIII)I" } : Jvm.MethodName) prog_1_method_3_code (7 : Nat) (Option.some Jvm.ClassFile.FieldType.int), Jvm.Cond.code ({ cls := "RandomConsensus", name := "bitSet", desc := "(II)Z" } : Jvm.MethodName) prog_1_method_26_code (3 : Nat) (Option.some Jvm.ClassFile.FieldType.boolean), Jvm.Cond.code ({ cls := "RandomConsensus", name := "deliverToReceiver", desc := "(IIII)I" } : Jvm.MethodName) prog_1_method_38_code (7 : Nat) (Option.some Jvm.ClassFile.FieldType.int), Jvm.Cond.code ({ cls := "RandomConsensus", name := "deliverPair", desc := "(IIII)Z" } : Jvm.MethodName) prog_1_method_39_code (5 : Nat) (Option.some Jvm.ClassFile.FieldType.boolean), Jvm.Cond.code ({ cls := "RandomConsensusOwnLaw", name := "mod", desc := "(II)I" } : Jvm.MethodName) method_3_code (2 : Nat) (Option.some Jvm.ClassFile.FieldType.int), Jvm.Cond.code ({ cls := "RandomConsensus", name := "crash", desc := "(II)Z" } : Jvm.MethodName) prog_1_method_4_code (4 : Nat) (Option.some Jvm.ClassFile.FieldType.boolean), Jvm.Cond.code ({ cls := "RandomConsensus", name := "loseCopies", desc := "(II)V" } : Jvm.MethodName) prog_1_method_37_code (5 : Nat) (Option.none : Option Jvm.ClassFile.FieldType), Jvm.Cond.code ({ cls := "RandomConsensus", name := "heldValueCount", desc := "(IIII)I" } : Jvm.MethodName) prog_1_method_41_code (7 : Nat) (Option.some Jvm.ClassFile.FieldType.int), Jvm.Cond.code ({ cls := "RandomConsensus", name := "readSent", desc := "(III)I" } : Jvm.MethodName) prog_1_method_32_code (4 : Nat) (Option.some Jvm.ClassFile.FieldType.int), Jvm.Cond.code ({ cls := "RandomConsensus", name := "finishReportPhase", desc := "(IIII)V" } : Jvm.MethodName) prog_1_method_47_code (6 : Nat) (Option.none : Option Jvm.ClassFile.FieldType), Jvm.Cond.code ({ cls := "RandomConsensus", name := "reportOutcome", desc := "(II)I" } : Jvm.MethodName) prog_1_method_44_code (3 : Nat) (Option.some Jvm.ClassFile.FieldType.int), Jvm.Cond.code ({ cls := "RandomConsensus", name := "finishProposalPhase", desc := "(IIII)Z" } : Jvm.MethodName) prog_1_method_48_code (7 : Nat) (Option.some Jvm.ClassFile.FieldType.boolean), Jvm.Cond.code ({ cls := "RandomConsensus", name := "proposalOutcome", desc := "(II)I" } : Jvm.MethodName) prog_1_method_45_code (3 : Nat) (Option.some Jvm.ClassFile.FieldType.int), Jvm.Cond.code ({ cls := "RandomConsensus", name := "countFor", desc := "(III)I" } : Jvm.MethodName) prog_1_method_46_code (4 : Nat) (Option.some Jvm.ClassFile.FieldType.int), Jvm.Cond.code ({ cls := "RandomConsensus", name := "adoptValue", desc := "(IIII)V" } : Jvm.MethodName) prog_1_method_49_code (5 : Nat) (Option.none : Option Jvm.ClassFile.FieldType), Jvm.Cond.code ({ cls := "RandomConsensus", name := "startRound", desc := "(II)V" } : Jvm.MethodName) prog_1_method_51_code (3 : Nat) (Option.none : Option Jvm.ClassFile.FieldType), Jvm.Cond.code ({ cls := "RandomConsensus", name := "inputOf", desc := "(I)I" } : Jvm.MethodName) prog_1_method_9_code (2 : Nat) (Option.some Jvm.ClassFile.FieldType.int), Jvm.Cond.code ({ cls := "RandomConsensus", name := "hasInput", desc := "(I)Z" } : Jvm.MethodName) prog_1_method_27_code (2 : Nat) (Option.some Jvm.ClassFile.FieldType.boolean), Jvm.Cond.code ({ cls := "RandomConsensus", name := "drawCoin", desc := "(I)V" } : Jvm.MethodName) prog_1_method_50_code (4 : Nat) (Option.none : Option Jvm.ClassFile.FieldType)]
set_option maxRecDepth 65536 in
theorem codes_eq : words1.filter isCode = codes1 := rfl
theorem w_codes : ∀ c ∈ words1.filter isCode, c.before args0 about1 = true := by
  rw [codes_eq]
  intro c hc
  simp only [codes1, List.mem_cons, List.not_mem_nil, or_false] at hc
  rcases hc with rfl | rfl | rfl | rfl | rfl | rfl | rfl | rfl | rfl | rfl | rfl | rfl | rfl | rfl | rfl | rfl | rfl | rfl | rfl | rfl | rfl | rfl | rfl | rfl | rfl | rfl | rfl | rfl | rfl | rfl | rfl | rfl | rfl | rfl | rfl | rfl | rfl | rfl | rfl | rfl | rfl | rfl | rfl | rfl | rfl | rfl | rfl
  · exact w_c0
  · exact w_c1
  · exact w_c2
  · exact w_c3
  · exact w_c4
  · exact w_c5
  · exact w_c6
  · exact w_c7
  · exact w_c8
  · exact w_c9
  · exact w_c10
  · exact w_c11
  · exact w_c12
  · exact w_c13
  · exact w_c14
  · exact w_c15
  · exact w_c16
  · exact w_c17
  · exact w_c18
  · exact w_c19
  · exact w_c20
  · exact w_c21
  · exact w_c22
  · exact w_c23
  · exact w_c24
  · exact w_c25
  · exact w_c26
  · exact w_c27
  · exact w_c28
  · exact w_c29
  · exact w_c30
  · exact w_c31
  · exact w_c32
  · exact w_c33
  · exact w_c34
  · exact w_c35
  · exact w_c36
  · exact w_c37
  · exact w_c38
  · exact w_c39
  · exact w_c40
  · exact w_c41
  · exact w_c42
  · exact w_c43
  · exact w_c44
  · exact w_c45
  · exact w_c46
set_option maxRecDepth 65536 in
theorem w_t1 : (words1.take 24).all (fun c => isCode c || c.before args0 about1) = true := by decide +kernel
set_option maxRecDepth 65536 in
theorem w_t2 : ((words1.drop 24).take 24).all (fun c => isCode c || c.before args0 about1) = true := by decide +kernel
set_option maxRecDepth 65536 in
theorem w_t3 : (((words1.drop 24).drop 24).take 24).all (fun c => isCode c || c.before args0 about1) = true := by decide +kernel
set_option maxRecDepth 65536 in
theorem w_t4 : ((((words1.drop 24).drop 24).drop 24).take 24).all (fun c => isCode c || c.before args0 about1) = true := by decide +kernel
set_option maxRecDepth 65536 in
theorem w_t5 : (((((words1.drop 24).drop 24).drop 24).drop 24).take 24).all (fun c => isCode c || c.before args0 about1) = true := by decide +kernel
set_option maxRecDepth 65536 in
theorem w_t6 : ((((((words1.drop 24).drop 24).drop 24).drop 24).drop 24).take 24).all (fun c => isCode c || c.before args0 about1) = true := by decide +kernel
set_option maxRecDepth 65536 in
theorem w_t7 : (((((((words1.drop 24).drop 24).drop 24).drop 24).drop 24).drop 24).take 24).all (fun c => isCode c || c.before args0 about1) = true := by decide +kernel
set_option maxRecDepth 65536 in
theorem w_t8 : ((((((((words1.drop 24).drop 24).drop 24).drop 24).drop 24).drop 24).drop 24).take 24).all (fun c => isCode c || c.before args0 about1) = true := by decide +kernel
set_option maxRecDepth 65536 in
theorem w_t9 : (((((((((words1.drop 24).drop 24).drop 24).drop 24).drop 24).drop 24).drop 24).drop 24).take 24).all (fun c => isCode c || c.before args0 about1) = true := by decide +kernel
set_option maxRecDepth 65536 in
theorem w_t10 : (((((((((words1.drop 24).drop 24).drop 24).drop 24).drop 24).drop 24).drop 24).drop 24).drop 24).all (fun c => isCode c || c.before args0 about1) = true := by decide +kernel
theorem w_tables : (allAtoms (Jvm.Cond.code x code maxLocals ret :: tables_1)).before args0 about1 = true := by
  rw [allAtoms_all]
  show words1.all (fun c => c.before args0 about1) = true
  refine all_split ?_ w_codes
  rw [← List.take_append_drop 24 words1, List.all_append, w_t1, ← List.take_append_drop 24 (words1.drop 24), List.all_append, w_t2, ← List.take_append_drop 24 ((words1.drop 24).drop 24), List.all_append, w_t3, ← List.take_append_drop 24 (((words1.drop 24).drop 24).drop 24), List.all_append, w_t4, ← List.take_append_drop 24 ((((words1.drop 24).drop 24).drop 24).drop 24), List.all_append, w_t5, ← List.take_append_drop 24 (((((words1.drop 24).drop 24).drop 24).drop 24).drop 24), List.all_append, w_t6, ← List.take_append_drop 24 ((((((words1.drop 24).drop 24).drop 24).drop 24).drop 24).drop 24), List.all_append, w_t7, ← List.take_append_drop 24 (((((((words1.drop 24).drop 24).drop 24).drop 24).drop 24).drop 24).drop 24), List.all_append, w_t8, ← List.take_append_drop 24 ((((((((words1.drop 24).drop 24).drop 24).drop 24).drop 24).drop 24).drop 24).drop 24), List.all_append, w_t9, w_t10]
  rfl
set_option maxRecDepth 65536 in
theorem w_rest : rest_1_c.before args0 about1 = true := by decide +kernel
set_option maxRecDepth 65536 in
theorem w_case : (Jvm.Cond.and given_1 narrow_1).before args0 about1 = true := by decide +kernel
theorem w_applies : (headSpec (Jvm.Cond.code x code maxLocals ret :: tables_1) room_1).applies x e0.platform about1 = true :=
  (Spec.applies_iff w_frames).mpr ⟨w_running, w_runnable, w_alone, w_named, w_hears, w_ripe, w_room, w_tables⟩
theorem atStart : AtStart classFile x code maxLocals ret World_1 tables_1 room_1 Calls_1 rest_1 Pre_1 launch0 p0 e0 about1 theMethod args0 below0 :=
  ⟨lists_1, trivial, launch0.admits_env _ _ _, launch0.least_env, fairChoices_fair.cas, fairChoices_fair.clock, w_frames, w_args, w_heap, w_applies, trivial, w_rest, w_case⟩
end start1
theorem witness_1 : WitnessClaimed_1 := ⟨start1.p0, start1.e0, start1.about1, start1.theMethod, start1.args0, start1.below0, start1.atStart⟩
end Jvm.Pilot.@@N@@
