import JvmDerived
import JvmDerived.Pilot.@@N@@Statement
import JvmDerived.Pilot.@@N@@Code
set_option linter.unusedVariables false
set_option linter.unusedSimpArgs false
@@BLOCK:NumsL.lean.txt@@
namespace Jvm.LM
open Sem ClassFile Op Lib Jvm.Stand Jvm.Free Jvm.LawKit Jvm.RoadKit
/-! A small machine over plain data that mirrors the bytecode of one class and of a law over it. -/
abbrev Lv := List (Option Value)
abbrev St := (Nat → Nat → Int32) × (Nat → Nat → Int64)
abbrev Cd := List (Nat × Instr × Nat)
/-- name, descriptor, kind (0 int, 1 boolean, 2 long, 3+j the j-th array), final -/
abbrev Fe := String × String × Nat × Bool
/-- name, descriptor, number of arguments, return kind (0 none, 1 int, 2 boolean, 3 long), code, max_locals, room: frames, locals -/
abbrev Me := String × String × Nat × Nat × Cd × Nat × Nat × Nat
/-- class name, fields, arrays (kind, length), pool to field, pool to method, pool to constant, methods, pool index of Object's constructor -/
abbrev Cl := String × List (Nat × Fe) × List (Nat × Nat) × List (Nat × Nat) × List (Nat × Nat) × List (Nat × Value) × List (Nat × Me) × Nat
def Me.nm (m : Me) : String := m.1
def Me.ds (m : Me) : String := m.2.1
def Me.na (m : Me) : Nat := m.2.2.1
def Me.rt (m : Me) : Nat := m.2.2.2.1
def Me.cd (m : Me) : Cd := m.2.2.2.2.1
def Me.ml (m : Me) : Nat := m.2.2.2.2.2.1
def Me.rf (m : Me) : Nat := m.2.2.2.2.2.2.1
def Me.rl (m : Me) : Nat := m.2.2.2.2.2.2.2
def Cl.nm (P : Cl) : String := P.1
def Cl.fs (P : Cl) : List (Nat × Fe) := P.2.1
def Cl.al (P : Cl) : List (Nat × Nat) := P.2.2.1
def Cl.fx (P : Cl) : List (Nat × Nat) := P.2.2.2.1
def Cl.mx (P : Cl) : List (Nat × Nat) := P.2.2.2.2.1
def Cl.kx (P : Cl) : List (Nat × Value) := P.2.2.2.2.2.1
def Cl.ms (P : Cl) : List (Nat × Me) := P.2.2.2.2.2.2.1
def Cl.oi (P : Cl) : Nat := P.2.2.2.2.2.2.2
def gI (s : St) (c j : Nat) : Int32 := s.1 c j
def gL (s : St) (c j : Nat) : Int64 := s.2 c j
def sI (s : St) (c j : Nat) (v : Int32) : St := (fun a b => if a = c ∧ b = j then v else s.1 a b, s.2)
def sL (s : St) (c j : Nat) (v : Int64) : St := (s.1, fun a b => if a = c ∧ b = j then v else s.2 a b)
def s0 : St := (fun _ _ => 0, fun _ _ => 0)
def ix (i : Int32) : Nat := i.toNatClampNeg
abbrev inb (n : Nat) (i : Int32) : Prop := 0 ≤ i.toInt ∧ i.toInt < (n : Int)
def asc {α : Type} : List (Nat × α) → Nat → Option α
  | [], _ => none
  | (a, b) :: r, k => match Nat.beq a k with
    | true => some b
    | false => asc r k
def fetch : Cd → Nat → Option (Instr × Nat)
  | [], _ => none
  | (a, b) :: r, k => match Nat.beq a k with
    | true => some b
    | false => fetch r k
def ilen : Instr → Nat
  | .iload _ => 2 | .lload _ => 2 | .aload _ => 2 | .istore _ => 2 | .lstore _ => 2 | .astore _ => 2 | .bipush _ => 2 | .ldc _ => 2 | .newarray _ => 2
  | .sipush _ => 3 | .iinc _ _ => 3 | .goto _ => 3 | .ifCond _ _ => 3 | .if_icmp _ _ => 3 | .getfield _ => 3 | .putfield _ => 3
  | .invokevirtual _ => 3 | .invokespecial _ => 3 | .invokestatic _ => 3 | .new _ => 3 | .ldc2_w _ => 3
  | _ => 1
def isSw : Instr → Bool
  | .tableswitch _ _ _ _ => true
  | _ => false
def clr (ls : Lv) : Nat → Lv
  | 0 => ls
  | j + 1 => match ls[j]? with
    | some (some (.long _)) => ls.set j none
    | some (some (.double _)) => ls.set j none
    | _ => ls
/-- a store into the local variables: a long takes two -/
def stl (ls : Lv) (i : Nat) (v : Value) : Option Lv :=
  match v with
  | .long x => if i + 1 < ls.length then some (((clr ls i).set i (some (.long x))).set (i + 1) none) else none
  | w => if i < ls.length then some ((clr ls i).set i (some w)) else none
def br (cd : ClassFile.Cond) (x y : Int32) (a b : Nat) : Nat :=
  match cd with
  | .eq => if x = y then a else b
  | .ne => if x = y then b else a
  | .lt => if x < y then a else b
  | .ge => if x < y then b else a
  | .gt => if y < x then a else b
  | .le => if y < x then b else a
def jmp (pc : Nat) (o : Int) : Nat := ((pc : Int) + o).toNat
def qstep (i : Instr) (pc : Nat) (st : List Value) : Option (Nat × List Value) :=
  match i with
  | .iconst v => some (pc + 1, .int (Int32.ofInt v) :: st)
  | .bipush v => some (pc + 2, .int (Int8.ofInt v).toInt32 :: st)
  | .sipush v => some (pc + 3, .int (Int16.ofInt v).toInt32 :: st)
  | .lconst k => some (pc + 1, .long (Int64.ofNat k) :: st)
  | .iadd => match st with | .int y :: .int x :: r => some (pc + 1, .int (x + y) :: r) | _ => none
  | .isub => match st with | .int y :: .int x :: r => some (pc + 1, .int (x - y) :: r) | _ => none
  | .imul => match st with | .int y :: .int x :: r => some (pc + 1, .int (x * y) :: r) | _ => none
  | .iand => match st with | .int y :: .int x :: r => some (pc + 1, .int (x &&& y) :: r) | _ => none
  | .ior => match st with | .int y :: .int x :: r => some (pc + 1, .int (x ||| y) :: r) | _ => none
  | .ixor => match st with | .int y :: .int x :: r => some (pc + 1, .int (x ^^^ y) :: r) | _ => none
  | .ishl => match st with | .int y :: .int x :: r => some (pc + 1, .int (x <<< (y &&& 31)) :: r) | _ => none
  | .ishr => match st with | .int y :: .int x :: r => some (pc + 1, .int (x >>> (y &&& 31)) :: r) | _ => none
  | .iushr => match st with | .int y :: .int x :: r => some (pc + 1, .int (XT.ushr x y) :: r) | _ => none
  | .idiv => match st with | .int y :: .int x :: r => if y = 0 then none else some (pc + 1, .int (x / y) :: r) | _ => none
  | .irem => match st with | .int y :: .int x :: r => if y = 0 then none else some (pc + 1, .int (x % y) :: r) | _ => none
  | .ineg => match st with | .int x :: r => some (pc + 1, .int (-x) :: r) | _ => none
  | .ladd => match st with | .long y :: .long x :: r => some (pc + 1, .long (x + y) :: r) | _ => none
  | .lsub => match st with | .long y :: .long x :: r => some (pc + 1, .long (x - y) :: r) | _ => none
  | .lmul => match st with | .long y :: .long x :: r => some (pc + 1, .long (x * y) :: r) | _ => none
  | .land => match st with | .long y :: .long x :: r => some (pc + 1, .long (x &&& y) :: r) | _ => none
  | .lor => match st with | .long y :: .long x :: r => some (pc + 1, .long (x ||| y) :: r) | _ => none
  | .lxor => match st with | .long y :: .long x :: r => some (pc + 1, .long (x ^^^ y) :: r) | _ => none
  | .lshl => match st with | .int y :: .long x :: r => some (pc + 1, .long (x <<< (y.toInt64 &&& 63)) :: r) | _ => none
  | .lshr => match st with | .int y :: .long x :: r => some (pc + 1, .long (x >>> (y.toInt64 &&& 63)) :: r) | _ => none
  | .lushr => match st with | .int y :: .long x :: r => some (pc + 1, .long (XT.ushrL x y) :: r) | _ => none
  | .ldiv => match st with | .long y :: .long x :: r => if y = 0 then none else some (pc + 1, .long (x / y) :: r) | _ => none
  | .lneg => match st with | .long x :: r => some (pc + 1, .long (-x) :: r) | _ => none
  | .lcmp => match st with | .long y :: .long x :: r => some (pc + 1, .int (XT.cmpL x y) :: r) | _ => none
  | .i2l => match st with | .int x :: r => some (pc + 1, .long x.toInt64 :: r) | _ => none
  | .l2i => match st with | .long x :: r => some (pc + 1, .int x.toInt32 :: r) | _ => none
  | .dup => match st with | .int x :: r => some (pc + 1, .int x :: .int x :: r) | .ref x :: r => some (pc + 1, .ref x :: .ref x :: r) | _ => none
  | .pop => match st with | .int _ :: r => some (pc + 1, r) | .ref _ :: r => some (pc + 1, r) | _ => none
  | .goto o => if 0 ≤ (pc : Int) + o then some (jmp pc o, st) else none
  | .ifCond cd o => match st with | .int x :: r => if 0 ≤ (pc : Int) + o then some (br cd x 0 (jmp pc o) (pc + 3), r) else none | _ => none
  | .if_icmp cd o => match st with | .int y :: .int x :: r => if 0 ≤ (pc : Int) + o then some (br cd x y (jmp pc o) (pc + 3), r) else none | _ => none
  | .tableswitch d lo hi offs => match st with
    | .int x :: r => if x.toInt < lo ∨ x.toInt > hi then (if 0 ≤ (pc : Int) + d then some (jmp pc d, r) else none)
      else (match offs[(x.toInt - lo).toNat]? with | some o => if 0 ≤ (pc : Int) + o then some (jmp pc o, r) else none | none => none)
    | _ => none
  | _ => none
def pstep (i : Instr) (pc : Nat) (ls : Lv) (st : List Value) : Option (Nat × Lv × List Value) :=
  match i with
  | .iload_n k => match ls[k.val]? with | some (some (.int v)) => some (pc + 1, ls, .int v :: st) | _ => none
  | .iload k => match ls[k]? with | some (some (.int v)) => some (pc + 2, ls, .int v :: st) | _ => none
  | .lload_n k => match ls[k.val]? with | some (some (.long v)) => some (pc + 1, ls, .long v :: st) | _ => none
  | .lload k => match ls[k]? with | some (some (.long v)) => some (pc + 2, ls, .long v :: st) | _ => none
  | .aload_n k => match ls[k.val]? with | some (some (.ref v)) => some (pc + 1, ls, .ref v :: st) | _ => none
  | .aload k => match ls[k]? with | some (some (.ref v)) => some (pc + 2, ls, .ref v :: st) | _ => none
  | .istore_n k => match st with | .int v :: r => (match stl ls k.val (.int v) with | some l => some (pc + 1, l, r) | none => none) | _ => none
  | .istore k => match st with | .int v :: r => (match stl ls k (.int v) with | some l => some (pc + 2, l, r) | none => none) | _ => none
  | .lstore_n k => match st with | .long v :: r => (match stl ls k.val (.long v) with | some l => some (pc + 1, l, r) | none => none) | _ => none
  | .lstore k => match st with | .long v :: r => (match stl ls k (.long v) with | some l => some (pc + 2, l, r) | none => none) | _ => none
  | .astore_n k => match st with | .ref v :: r => (match stl ls k.val (.ref v) with | some l => some (pc + 1, l, r) | none => none) | _ => none
  | .astore k => match st with | .ref v :: r => (match stl ls k (.ref v) with | some l => some (pc + 2, l, r) | none => none) | _ => none
  | .iinc k d => match ls[k]? with | some (some (.int v)) => (match stl ls k (.int (v + Int32.ofInt d)) with | some l => some (pc + 3, l, st) | none => none) | _ => none
  | i => match qstep i pc st with | some (pc', st') => some (pc', ls, st') | none => none
/-- how the machine's references stand in the heap -/
def va (ρ : Nat → Nat) : Value → Value
  | .ref c => .ref (ρ c)
  | v => v
def WF (L : Array Slot) : Prop :=
  (∀ (k : Nat) (v : Value), L[k]? = some (Slot.val v) → v.category = 2 → L[k + 1]? = some .second) ∧
  (∀ k : Nat, L[k + 1]? = some Slot.second → ∃ v : Value, L[k]? = some (Slot.val v) ∧ v.category = 2) ∧ L[0]? ≠ some Slot.second
def LR (ρ : Nat → Nat) (ls : Lv) (L : Array Slot) : Prop :=
  L.size = ls.length ∧ (∀ (k : Nat) (v : Value), ls[k]? = some (some v) → L[k]? = some (Slot.val (va ρ v))) ∧ WF L
end Jvm.LM

namespace Jvm.LM
open Sem ClassFile Op Lib Jvm.Stand Jvm.Free Jvm.LawKit Jvm.RoadKit
/-! the local variables -/
def upd (f : Nat → Option Slot) (i : Nat) (x : Slot) : Nat → Option Slot := fun k => if k = i then some x else f k
def WFf (f : Nat → Option Slot) : Prop :=
  (∀ k v, f k = some (.val v) → v.category = 2 → f (k + 1) = some .second) ∧
  (∀ k, f (k + 1) = some .second → ∃ v, f k = some (.val v) ∧ v.category = 2) ∧ f 0 ≠ some .second
def clearF (f : Nat → Option Slot) (i : Nat) : Nat → Option Slot :=
  match f i with
  | some .second => upd (upd f (i - 1) .unset) i .unset
  | some (.val old) => if old.category = 2 then upd (upd f (i + 1) .unset) i .unset else upd f i .unset
  | _ => f
theorem clearF_cases (f : Nat → Option Slot) (i : Nat) : (f i = some .second ∧ clearF f i = upd (upd f (i - 1) .unset) i .unset) ∨ (∃ old, f i = some (.val old) ∧ old.category = 2 ∧ clearF f i = upd (upd f (i + 1) .unset) i .unset) ∨
    (∃ old, f i = some (.val old) ∧ old.category ≠ 2 ∧ clearF f i = upd f i .unset) ∨ ((f i = some .unset ∨ f i = none) ∧ clearF f i = f) := by
  cases h : f i with
  | none => exact Or.inr (Or.inr (Or.inr ⟨Or.inr rfl, by simp only [clearF, h]⟩))
  | some x =>
    cases x with
    | unset => exact Or.inr (Or.inr (Or.inr ⟨Or.inl rfl, by simp only [clearF, h]⟩))
    | second => exact Or.inl ⟨rfl, by simp only [clearF, h]⟩
    | val old =>
      by_cases hc : old.category = 2
      · exact Or.inr (Or.inl ⟨old, rfl, hc, by simp only [clearF, h]; rw [if_pos hc]⟩)
      · exact Or.inr (Or.inr (Or.inl ⟨old, rfl, hc, by simp only [clearF, h]; rw [if_neg hc]⟩))
theorem wff_clear {f : Nat → Option Slot} (h : WFf f) (i : Nat) : WFf (clearF f i) := by
  obtain ⟨h1, h2, h3⟩ := h
  unfold clearF
  split
  · rename_i e
    cases i with
    | zero => exact absurd e h3
    | succ j =>
      refine ⟨fun k v hk hc => ?_, fun k hk => ?_, ?_⟩
      · simp only [upd, Nat.add_sub_cancel] at hk ⊢
        have := h1 k v
        by_cases a : k = j + 1
        · simp [a] at hk
        · by_cases b : k = j
          · simp [b] at hk
          · have c : k + 1 ≠ j + 1 := by omega
            simp only [a, b, if_false] at hk
            by_cases d : k + 1 = j
            · have := h1 k v hk hc
              obtain ⟨w, hw, hw2⟩ := h2 j e
              rw [d, hw] at this; cases this
            · simp [c, d, b, h1 k v hk hc]
      · simp only [upd, Nat.add_sub_cancel] at hk ⊢
        by_cases a : k = j
        · simp [a] at hk
        · by_cases b : k + 1 = j
          · simp [b] at hk
          · simp only [show ¬ (k + 1 = j + 1) by omega, b, if_false] at hk
            obtain ⟨w, hw, hw2⟩ := h2 k hk
            by_cases d : k = j + 1
            · rw [d, e] at hw; cases hw
            · exact ⟨w, by simp [d, a, hw], hw2⟩
      · simp only [upd, Nat.add_sub_cancel]
        by_cases b : 0 = j
        · simp [← b]
        · simp [b, h3]
  · rename_i old e
    split
    · rename_i hc2
      have e2 := h1 i old e hc2
      refine ⟨fun k v hk hc => ?_, fun k hk => ?_, ?_⟩
      · simp only [upd] at hk ⊢
        by_cases a : k = i
        · simp [a] at hk
        · by_cases b : k = i + 1
          · simp [b] at hk
          · simp only [a, b, if_false] at hk
            have q := h1 k v hk hc
            by_cases d : k + 1 = i
            · rw [d, e] at q; cases q
            · simp [d, a, show ¬ (k + 1 = i + 1) by omega, q]
      · simp only [upd] at hk ⊢
        by_cases a : k + 1 = i
        · simp [a] at hk
        · by_cases b : k = i
          · simp [b] at hk
          · simp only [a, show ¬ (k + 1 = i + 1) by omega, if_false] at hk
            obtain ⟨w, hw, hw2⟩ := h2 k hk
            by_cases d : k = i + 1
            · rw [d, e2] at hw; cases hw
            · exact ⟨w, by simp [d, b, hw], hw2⟩
      · simp only [upd]
        by_cases b : 0 = i
        · simp [← b]
        · simp [b, h3]
    · rename_i hc2
      refine ⟨fun k v hk hc => ?_, fun k hk => ?_, ?_⟩
      · simp only [upd] at hk ⊢
        by_cases a : k = i
        · simp [a] at hk
        · simp only [a, if_false] at hk
          have q := h1 k v hk hc
          by_cases d : k + 1 = i
          · rw [d, e] at q; cases q
          · simp [d, q]
      · simp only [upd] at hk ⊢
        by_cases a : k + 1 = i
        · simp [a] at hk
        · simp only [a, if_false] at hk
          obtain ⟨w, hw, hw2⟩ := h2 k hk
          by_cases d : k = i
          · rw [d, e] at hw; cases hw; exact absurd hw2 hc2
          · exact ⟨w, by simp [d, hw], hw2⟩
      · simp only [upd]
        by_cases b : 0 = i
        · simp [← b]
        · simp [b, h3]
  · exact ⟨h1, h2, h3⟩
theorem wff_one {f : Nat → Option Slot} (h : WFf f) {i : Nat} (e : f i = some .unset) {v : Value} (hv : v.category ≠ 2) : WFf (upd f i (.val v)) := by
  obtain ⟨h1, h2, h3⟩ := h
  refine ⟨fun k w hk hc => ?_, fun k hk => ?_, ?_⟩
  · simp only [upd] at hk ⊢
    by_cases a : k = i
    · simp only [a, if_true, Option.some.injEq, Slot.val.injEq] at hk; subst hk; exact absurd hc hv
    · simp only [a, if_false] at hk
      have q := h1 k w hk hc
      by_cases d : k + 1 = i
      · rw [d, e] at q; cases q
      · simp [d, q]
  · simp only [upd] at hk ⊢
    by_cases a : k + 1 = i
    · simp [a] at hk
    · simp only [a, if_false] at hk
      obtain ⟨w, hw, hw2⟩ := h2 k hk
      by_cases d : k = i
      · rw [d, e] at hw; cases hw
      · exact ⟨w, by simp [d, hw], hw2⟩
  · simp only [upd]
    by_cases b : 0 = i
    · simp [← b]
    · simp [b, h3]
theorem wff_two {f : Nat → Option Slot} (h : WFf f) {i : Nat} (e : f i = some .unset) (e' : f (i + 1) = some .unset) {v : Value} (hv : v.category = 2) : WFf (upd (upd f i (.val v)) (i + 1) .second) := by
  obtain ⟨h1, h2, h3⟩ := h
  refine ⟨fun k w hk hc => ?_, fun k hk => ?_, ?_⟩
  · simp only [upd] at hk ⊢
    by_cases a : k = i + 1
    · simp [a] at hk
    · by_cases b : k = i
      · simp [b]
      · simp only [a, b, if_false] at hk
        have q := h1 k w hk hc
        by_cases d : k + 1 = i
        · rw [d, e] at q; cases q
        · simp [d, show ¬ (k + 1 = i + 1) by omega, q]
  · simp only [upd] at hk ⊢
    by_cases a : k = i
    · exact ⟨v, by simp [a], hv⟩
    · by_cases b : k + 1 = i
      · simp [b] at hk
      · simp only [show ¬ (k + 1 = i + 1) by omega, b, if_false] at hk
        obtain ⟨w, hw, hw2⟩ := h2 k hk
        by_cases d : k = i + 1
        · rw [d, e'] at hw; cases hw
        · exact ⟨w, by simp [d, a, hw], hw2⟩
  · simp only [upd]
    by_cases b : 0 = i
    · simp [← b]
    · simp [b, h3]
theorem gset (L : Array Slot) {i : Nat} (hi : i < L.size) (x : Slot) : (fun k => (L.setIfInBounds i x)[k]?) = upd (fun k => L[k]?) i x := by
  funext k
  simp only [upd, Array.getElem?_setIfInBounds]
  by_cases a : i = k
  · subst a; simp [hi]
  · simp [a, show ¬ k = i from fun h => a h.symm]
theorem sl_eq (L : Array Slot) (i : Nat) (v : Value) : storeLocals L i v = (L[i]?).bind (fun x => match x with
    | .second => (setAt L (i - 1) .unset).bind (fun l => storeSelf l i v)
    | .val old => if old.category = 2 then (setAt L (i + 1) .unset).bind (fun l => storeSelf l i v) else storeSelf L i v
    | .unset => storeSelf L i v) := rfl
theorem ss_eq (L : Array Slot) (i : Nat) (v : Value) : storeSelf L i v = (setAt L i (.val v)).bind (fun l => if v.category = 2 then (l[i + 1]?).bind (fun x => match x with
    | .val old => if old.category = 2 then (setAt l (i + 2) .unset).bind (fun l' => setAt l' (i + 1) .second) else setAt l (i + 1) .second
    | _ => setAt l (i + 1) .second) else some l) := rfl
theorem sa_eq {L : Array Slot} {i : Nat} (hi : i < L.size) (x : Slot) : setAt L i x = some (L.setIfInBounds i x) := if_pos hi
theorem upd_upd (f : Nat → Option Slot) (i : Nat) (x y : Slot) : upd (upd f i x) i y = upd f i y := by
  funext k; simp only [upd]; split <;> rfl
/-- what a store clears first -/
theorem clear_ok {L : Array Slot} (hW : WF L) {i : Nat} (hi : i < L.size) (v : Value) : ∃ L1, storeLocals L i v = storeSelf L1 i v ∧ L1.size = L.size ∧ upd (fun k => L1[k]?) i .unset = upd (clearF (fun k => L[k]?) i) i .unset := by
  have hh : WFf (fun k => L[k]?) := hW
  obtain ⟨sl, hsl⟩ : ∃ sl, L[i]? = some sl := ⟨L[i], Array.getElem?_eq_getElem hi⟩
  rw [sl_eq, hsl, Option.bind_some]
  cases sl with
  | unset => exact ⟨L, rfl, rfl, by simp only [clearF, hsl]⟩
  | second =>
    refine ⟨L.setIfInBounds (i - 1) .unset, ?_, by simp, ?_⟩
    · show (setAt L (i - 1) .unset).bind _ = _
      rw [sa_eq (by omega)]; rfl
    · rw [gset _ (by omega)]; simp only [clearF, hsl, upd_upd]
  | val old =>
    by_cases hc : old.category = 2
    · have h2 := hh.1 i old hsl hc
      have hlt : i + 1 < L.size := (Array.getElem?_eq_some_iff.mp h2).1
      refine ⟨L.setIfInBounds (i + 1) .unset, ?_, by simp, ?_⟩
      · show (if old.category = 2 then _ else _) = _
        rw [if_pos hc, sa_eq hlt]; rfl
      · rw [gset _ hlt]; simp only [clearF, hsl, hc, if_true, upd_upd]
    · refine ⟨L, ?_, rfl, ?_⟩
      · show (if old.category = 2 then _ else _) = _
        rw [if_neg hc]
      · simp only [clearF, hsl, hc, if_false, upd_upd]
theorem clearF_at {f : Nat → Option Slot} {i : Nat} (hi : f i ≠ none) : clearF f i i = some .unset := by
  rcases clearF_cases f i with ⟨h1, h2⟩ | ⟨old, h1, h3, h2⟩ | ⟨old, h1, h3, h2⟩ | ⟨h1 | h1, h2⟩
  · rw [h2]; simp [upd]
  · rw [h2]; simp [upd]
  · rw [h2]; simp [upd]
  · rw [h2]; exact h1
  · exact absurd h1 hi
theorem clearF_self {f : Nat → Option Slot} {i : Nat} (hi : f i ≠ none) : upd (clearF f i) i .unset = clearF f i := by
  funext k; simp only [upd]; split
  · rename_i e; rw [e]; exact (clearF_at hi).symm
  · rfl
/-- the other variables: kept, or they held (a part of) a long -/
theorem clearF_keep {f : Nat → Option Slot} (h : WFf f) {i k : Nat} {w : Value} (hk : k ≠ i) (e : f k = some (.val w)) (hw : k + 1 = i → w.category ≠ 2) : clearF f i k = some (.val w) := by
  rcases clearF_cases f i with ⟨e2, h2⟩ | ⟨old, e2, hc, h2⟩ | ⟨old, e2, hc, h2⟩ | ⟨-, h2⟩
  · rw [h2]
    cases i with
    | zero => exact absurd e2 h.2.2
    | succ j =>
      simp only [upd, Nat.add_sub_cancel, hk, if_false]
      split
      · rename_i hj; subst hj
        obtain ⟨v, hv, hv2⟩ := h.2.1 k e2
        rw [e] at hv; cases hv; exact absurd hv2 (hw rfl)
      · exact e
  · rw [h2]
    have q := h.1 i old e2 hc
    simp only [upd, hk, if_false]
    split
    · rename_i hj; rw [hj, q] at e; cases e
    · exact e
  · rw [h2]; simp [upd, hk, e]
  · rw [h2]; exact e
theorem store_one {L : Array Slot} (hW : WF L) {i : Nat} (hi : i < L.size) {v : Value} (hv : v.category ≠ 2) :
    ∃ L', storeLocals L i v = some L' ∧ L'.size = L.size ∧ WF L' ∧ (fun k => L'[k]?) = upd (clearF (fun k => L[k]?) i) i (.val v) := by
  obtain ⟨L1, h1, h2, h3⟩ := clear_ok hW hi v
  have hne : (fun k => L[k]?) i ≠ none := by simp; omega
  have hi1 : i < L1.size := by omega
  refine ⟨L1.setIfInBounds i (.val v), ?_, by simp [h2], ?_, ?_⟩
  · rw [h1, ss_eq, sa_eq hi1, Option.bind_some, if_neg hv]
  · have q : (fun k => (L1.setIfInBounds i (.val v))[k]?) = upd (clearF (fun k => L[k]?) i) i (.val v) := by
      rw [gset _ hi1, ← upd_upd _ i .unset, h3, upd_upd]
    have w : WFf (fun k => (L1.setIfInBounds i (.val v))[k]?) := by
      rw [q]; exact wff_one (wff_clear hW i) (clearF_at hne) hv
    exact w
  · rw [gset _ hi1, ← upd_upd _ i .unset, h3, upd_upd]
theorem store_two {L : Array Slot} (hW : WF L) {i : Nat} (hi : i + 1 < L.size) {v : Value} (hv : v.category = 2) :
    ∃ L', storeLocals L i v = some L' ∧ L'.size = L.size ∧ WF L' ∧ (fun k => L'[k]?) = upd (upd (clearF (clearF (fun k => L[k]?) i) (i + 1)) i (.val v)) (i + 1) .second := by
  obtain ⟨L1, h1, h2, h3⟩ := clear_ok hW (show i < L.size by omega) v
  have hne : (fun k => L[k]?) i ≠ none := by simp; omega
  have hi1 : i < L1.size := by omega
  have hi2 : i + 1 < L1.size := by omega
  rw [clearF_self hne] at h3
  have hWc := wff_clear (f := fun k => L[k]?) hW i
  generalize hF : clearF (fun k => L[k]?) i = F at *
  have hFi : F i = some .unset := by rw [← hF]; exact clearF_at hne
  have g1 : (fun k => (L1.setIfInBounds i (.val v))[k]?) = upd F i (.val v) := by rw [gset _ hi1, ← upd_upd _ i .unset, h3]
  have g2 : (L1.setIfInBounds i (.val v))[i + 1]? = F (i + 1) := by
    have := congrFun g1 (i + 1); simpa [upd] using this
  have hFi1 : F (i + 1) ≠ none := by
    have : (L1.setIfInBounds i (.val v))[i + 1]? ≠ none := by simp; omega
    rw [g2] at this; exact this
  have hns : F (i + 1) ≠ some .second := fun q => by
    obtain ⟨w, hw, -⟩ := hWc.2.1 i q
    rw [hFi] at hw; cases hw
  have key : ∀ G : Nat → Option Slot, WFf G → G i = some .unset → G (i + 1) = some .unset → G = clearF F (i + 1) → WFf (upd (upd (clearF F (i + 1)) i (.val v)) (i + 1) .second) := fun G hG a b e => by rw [← e]; exact wff_two hG a b hv
  have hcl := wff_clear hWc (i + 1)
  have hcli : clearF F (i + 1) i = some .unset := by
    rcases clearF_cases F (i + 1) with ⟨q, h2⟩ | ⟨old, q, hc, h2⟩ | ⟨old, q, hc, h2⟩ | ⟨-, h2⟩
    · exact absurd q hns
    · rw [h2]; simp [upd, hFi]
    · rw [h2]; simp [upd, hFi]
    · rw [h2]; exact hFi
  have hWF := wff_two hcl hcli (clearF_at hFi1) hv
  rw [h1, ss_eq, sa_eq hi1, Option.bind_some, if_pos hv, g2]
  cases hx : F (i + 1) with
  | none => exact absurd hx hFi1
  | some sl =>
    cases sl with
    | second => exact absurd hx hns
    | unset =>
      have e1 : clearF F (i + 1) = F := by simp only [clearF, hx]
      have e3 : (fun k => ((L1.setIfInBounds i (.val v)).setIfInBounds (i + 1) .second)[k]?) = upd (upd (clearF F (i + 1)) i (.val v)) (i + 1) .second := by
        rw [gset _ (by simpa using hi2), g1, e1]
      refine ⟨(L1.setIfInBounds i (.val v)).setIfInBounds (i + 1) .second, ?_, by simp [h2], ?_, e3⟩
      · show setAt _ (i + 1) .second = _
        rw [sa_eq (by simpa using hi2)]
      · have w : WFf (fun k => ((L1.setIfInBounds i (.val v)).setIfInBounds (i + 1) .second)[k]?) := by rw [e3]; exact hWF
        exact w
    | val old =>
      by_cases hc : old.category = 2
      · have q := hWc.1 _ _ hx hc
        have hi3 : i + 2 < L1.size := by
          have q2 : (L1.setIfInBounds i (.val v))[i + 2]? = some .second := by
            have := congrFun g1 (i + 2); simpa [upd, q] using this
          have := (Array.getElem?_eq_some_iff.mp q2).1
          simpa using this
        have e1 : clearF F (i + 1) = upd (upd F (i + 2) .unset) (i + 1) .unset := by simp only [clearF, hx, hc, if_true]
        have e3 : (fun k => (((L1.setIfInBounds i (.val v)).setIfInBounds (i + 2) .unset).setIfInBounds (i + 1) .second)[k]?) = upd (upd (clearF F (i + 1)) i (.val v)) (i + 1) .second := by
          rw [gset _ (by simpa using hi2), gset _ (by simpa using hi3), g1, e1]
          funext k; simp only [upd]
          by_cases a : k = i + 1
          · simp [a]
          · by_cases b : k = i
            · simp [b]
            · simp [a, b]
        refine ⟨((L1.setIfInBounds i (.val v)).setIfInBounds (i + 2) .unset).setIfInBounds (i + 1) .second, ?_, by simp [h2], ?_, e3⟩
        · show (if old.category = 2 then _ else _) = _
          rw [if_pos hc, sa_eq (by simpa using hi3), Option.bind_some, sa_eq (by simpa using hi2)]
        · have w : WFf (fun k => (((L1.setIfInBounds i (.val v)).setIfInBounds (i + 2) .unset).setIfInBounds (i + 1) .second)[k]?) := by rw [e3]; exact hWF
          exact w
      · have e1 : clearF F (i + 1) = upd F (i + 1) .unset := by simp only [clearF, hx, hc, if_false]
        have e3 : (fun k => ((L1.setIfInBounds i (.val v)).setIfInBounds (i + 1) .second)[k]?) = upd (upd (clearF F (i + 1)) i (.val v)) (i + 1) .second := by
          rw [gset _ (by simpa using hi2), g1, e1]
          funext k; simp only [upd]
          by_cases a : k = i + 1
          · simp [a]
          · by_cases b : k = i
            · simp [b]
            · simp [a, b]
        refine ⟨(L1.setIfInBounds i (.val v)).setIfInBounds (i + 1) .second, ?_, by simp [h2], ?_, e3⟩
        · show (if old.category = 2 then _ else _) = _
          rw [if_neg hc, sa_eq (by simpa using hi2)]
        · have w : WFf (fun k => ((L1.setIfInBounds i (.val v)).setIfInBounds (i + 1) .second)[k]?) := by rw [e3]; exact hWF
          exact w
theorem cat_va (ρ : Nat → Nat) (v : Value) : (va ρ v).category = v.category := by cases v <;> rfl
theorem clr_len (ls : Lv) (i : Nat) : (clr ls i).length = ls.length := by
  cases i with
  | zero => rfl
  | succ j => simp only [clr]; split <;> simp
theorem clr_get {ls : Lv} {i k : Nat} {v : Value} (h : (clr ls i)[k]? = some (some v)) : ls[k]? = some (some v) ∧ (k + 1 = i → v.category ≠ 2) := by
  cases i with
  | zero => exact ⟨h, fun q => by omega⟩
  | succ j =>
    simp only [clr] at h
    split at h
    · rename_i x e
      rw [List.getElem?_set] at h
      split at h
      · rename_i hj; subst hj; split at h <;> simp at h
      · rename_i hj; exact ⟨h, fun q => by omega⟩
    · rename_i x e
      rw [List.getElem?_set] at h
      split at h
      · rename_i hj; subst hj; split at h <;> simp at h
      · rename_i hj; exact ⟨h, fun q => by omega⟩
    · rename_i e1 e2
      refine ⟨h, fun q hc => ?_⟩
      have hk : k = j := by omega
      subst hk
      cases v <;> first | exact e1 _ h | exact e2 _ h | (exact Nat.noConfusion (Nat.succ.inj hc))
theorem store_ok {ρ : Nat → Nat} {ls ls' : Lv} {L : Array Slot} {i : Nat} {v : Value} (hL : LR ρ ls L) (hd : ∀ x, v ≠ .double x) (h : stl ls i v = some ls') : ∃ L', storeLocals L i (va ρ v) = some L' ∧ LR ρ ls' L' ∧ L'.size = L.size := by
  obtain ⟨hz, hr, hW⟩ := hL
  have hWf : WFf (fun k => L[k]?) := hW
  by_cases hc : v.category = 2
  · obtain ⟨x, rfl⟩ : ∃ x, v = .long x := by cases v <;> simp [Value.category] at hc <;> first | exact ⟨_, rfl⟩ | exact absurd rfl (hd _)
    simp only [stl] at h
    split at h
    · rename_i hi
      cases h
      obtain ⟨L', a1, a2, a3, a4⟩ := store_two hW (show i + 1 < L.size by omega) (v := va ρ (.long x)) rfl
      refine ⟨L', a1, ⟨by simp [a2, hz, clr_len], fun k w hk => ?_, a3⟩, a2⟩
      have q : L'[k]? = _ := congrFun a4 k
      rw [q]
      rw [List.getElem?_set] at hk
      split at hk
      · simp at hk
      · rename_i hk1
        rw [List.getElem?_set] at hk
        split at hk
        · rename_i hk2; subst hk2
          simp only [clr_len] at hk
          split at hk
          · cases hk; simp [upd]
          · simp at hk
        · rename_i hk2
          obtain ⟨b1, b2⟩ := clr_get hk
          have b3 := hr _ _ b1
          have b4 : clearF (fun k => L[k]?) i k = some (.val (va ρ w)) := clearF_keep hWf (fun q => hk2 q.symm) b3 (fun q => by rw [cat_va]; exact b2 q)
          have b5 := clearF_keep (wff_clear hWf i) (i := i + 1) (fun q => hk1 q.symm) b4 (fun q => absurd (Nat.succ.inj q) fun z => hk2 z.symm)
          simp only [upd, show ¬ k = i + 1 from fun q => hk1 q.symm, show ¬ k = i from fun q => hk2 q.symm, if_false]
          exact b5
    · cases h
  · have hs : stl ls i v = if i < ls.length then some ((clr ls i).set i (some v)) else none := by cases v <;> first | rfl | exact absurd rfl hc
    rw [hs] at h
    split at h
    · rename_i hi
      cases h
      obtain ⟨L', a1, a2, a3, a4⟩ := store_one hW (show i < L.size by omega) (v := va ρ v) (by rw [cat_va]; exact hc)
      refine ⟨L', a1, ⟨by simp [a2, hz, clr_len], fun k w hk => ?_, a3⟩, a2⟩
      have q : L'[k]? = _ := congrFun a4 k
      rw [q]
      rw [List.getElem?_set] at hk
      split at hk
      · rename_i hk2; subst hk2
        simp only [clr_len] at hk
        split at hk
        · cases hk; simp [upd]
        · omega
      · rename_i hk2
        obtain ⟨b1, b2⟩ := clr_get hk
        have b3 := hr _ _ b1
        have b4 : clearF (fun k => L[k]?) i k = some (.val (va ρ w)) := clearF_keep hWf (fun q => hk2 q.symm) b3 (fun q => by rw [cat_va]; exact b2 q)
        simp only [upd, show ¬ k = i from fun q => hk2 q.symm, if_false]
        exact b4
    · cases h
end Jvm.LM

namespace Jvm.LM
open Sem ClassFile Op Lib Jvm.Stand Jvm.Free Jvm.LawKit Jvm.RoadKit
section Pure
variable {p : Program} {l : Launch} {e : Env} {R : Room} {s : State} {m : MethodId} {args : Array Value} {below : List Frame} {meth : Method} {c : Code} {T : State} {locs : List Loc} {cells slots : Nat}
theorem br_eq (cd : ClassFile.Cond) (x y : Int32) (a b : Nat) : br cd x y a b = if if_icmp.holds cd x y = true then a else b := by
  cases cd <;> simp only [br]
  · by_cases h : x = y <;> simp [h, XT.ii_eq_t, XT.ii_eq_f]
  · by_cases h : x = y
    · rw [if_pos h, XT.ii_ne_f h]; rfl
    · rw [if_neg h, XT.ii_ne_t h]; rfl
  · by_cases h : x < y
    · rw [if_pos h, XT.ii_lt_t h]; rfl
    · rw [if_neg h, XT.ii_lt_f h]; rfl
  · by_cases h : x < y
    · rw [if_pos h, XT.ii_ge_f h]; rfl
    · rw [if_neg h, XT.ii_ge_t h]; rfl
  · by_cases h : y < x
    · rw [if_pos h, XT.ii_gt_t h]; rfl
    · rw [if_neg h, XT.ii_gt_f h]; rfl
  · by_cases h : y < x
    · rw [if_pos h, XT.ii_le_f h]; rfl
    · rw [if_neg h, XT.ii_le_t h]; rfl
theorem qstep_sound (X : Stand p l e R s m args below meth c T locs cells slots) (hx : p.tables.exec = Jvm.exec) {ρ : Nat → Nat} {i : Instr} {n pc pc' : Nat} {st st' : List Value}
    (h : qstep i pc st = some (pc', st')) (hd : decode c.code pc = .ok (i, n)) (hn : isSw i = true ∨ n = ilen i) {L : Array Slot} :
    ∀ target, Steps p.tables e below (T.setTop (mkF m pc' L (st'.map (va ρ)))) target → Steps p.tables e below (T.setTop (mkF m pc L (st.map (va ρ)))) target := by
  by_cases hsw : isSw i = true
  · cases i <;> first | exact absurd hsw Bool.false_ne_true | skip
    rename_i d lo hi offs
    simp only [qstep] at h
    split at h
    · rename_i x r
      split at h
      · rename_i e1
        split at h
        · rename_i e2; cases h; exact fun t q => X.tableswitchOut hx (g := mkF m pc L (.int x :: List.map (va ρ) _)) rfl rfl hd e1 e2 t q
        · cases h
      · rename_i e1
        split at h
        · rename_i o e2
          split at h
          · rename_i e3; cases h; exact fun t q => X.tableswitchIn hx (g := mkF m pc L (.int x :: List.map (va ρ) _)) rfl rfl hd e1 e2 e3 t q
          · cases h
        · cases h
    · cases h
  obtain rfl := hn.resolve_left hsw
  unfold qstep at h
  split at h
  -- constants
  · cases h; exact fun t q => XS.iconst X.here hx rfl hd q
  · cases h; exact fun t q => XS.bipush X.here hx rfl hd q
  · cases h; exact fun t q => XS.sipush X.here hx rfl hd q
  · cases h; exact fun t q => XT.lconst X.here hx rfl hd q
  -- ints
  · split at h
    · cases h; exact fun t q => XS.iadd X.here hx rfl hd rfl q
    · cases h
  · split at h
    · cases h; exact fun t q => XS.isub X.here hx rfl hd rfl q
    · cases h
  · split at h
    · cases h; exact fun t q => XS.imul X.here hx rfl hd rfl q
    · cases h
  · split at h
    · cases h; exact fun t q => XS.iand X.here hx rfl hd rfl q
    · cases h
  · split at h
    · cases h; exact fun t q => XT.ior X.here hx rfl hd rfl q
    · cases h
  · split at h
    · cases h; exact fun t q => XT.ixor X.here hx rfl hd rfl q
    · cases h
  · split at h
    · cases h; exact fun t q => XT.ishl X.here hx rfl hd rfl q
    · cases h
  · split at h
    · cases h; exact fun t q => XT.ishr X.here hx rfl hd rfl q
    · cases h
  · split at h
    · cases h; exact fun t q => XT.iushr X.here hx rfl hd rfl q
    · cases h
  · split at h
    · split at h
      · cases h
      · rename_i e1; cases h; exact fun t q => XS.idiv X.here hx rfl hd rfl e1 q
    · cases h
  · split at h
    · split at h
      · cases h
      · rename_i e1; cases h; exact fun t q => iremM X hx rfl hd rfl e1 q
    · cases h
  · split at h
    · cases h; exact fun t q => XS.ineg X.here hx rfl hd rfl q
    · cases h
  -- longs
  · split at h
    · cases h; exact fun t q => XT.ladd X.here hx rfl hd rfl q
    · cases h
  · split at h
    · cases h; exact fun t q => XT.lsub X.here hx rfl hd rfl q
    · cases h
  · split at h
    · cases h; exact fun t q => XT.lmul X.here hx rfl hd rfl q
    · cases h
  · split at h
    · cases h; exact fun t q => XT.land X.here hx rfl hd rfl q
    · cases h
  · split at h
    · cases h; exact fun t q => XT.lor X.here hx rfl hd rfl q
    · cases h
  · split at h
    · cases h; exact fun t q => XT.lxor X.here hx rfl hd rfl q
    · cases h
  · split at h
    · cases h; exact fun t q => XT.lshl X.here hx rfl hd rfl q
    · cases h
  · split at h
    · cases h; exact fun t q => XT.lshr X.here hx rfl hd rfl q
    · cases h
  · split at h
    · cases h; exact fun t q => XT.lushr X.here hx rfl hd rfl q
    · cases h
  · split at h
    · split at h
      · cases h
      · rename_i e1; cases h; exact fun t q => XT.ldiv X.here hx rfl hd rfl e1 q
    · cases h
  · split at h
    · cases h; exact fun t q => XT.lneg X.here hx rfl hd rfl q
    · cases h
  · split at h
    · cases h; exact fun t q => XT.lcmp X.here hx rfl hd rfl q
    · cases h
  · split at h
    · cases h; exact fun t q => XT.i2l X.here hx rfl hd rfl q
    · cases h
  · split at h
    · cases h; exact fun t q => XT.l2i X.here hx rfl hd rfl q
    · cases h
  -- dup, pop
  · split at h
    · cases h; exact fun t q => XS.dup X.here hx rfl hd rfl rfl q
    · cases h; exact fun t q => XS.dup X.here hx rfl hd rfl rfl q
    · cases h
  · split at h
    · cases h; exact fun t q => XT.pop X.here hx rfl hd rfl rfl q
    · cases h; exact fun t q => XT.pop X.here hx rfl hd rfl rfl q
    · cases h
  -- jumps
  · split at h
    · rename_i e1; cases h; exact fun t q => XS.goto X.here hx rfl rfl hd e1 rfl q
    · cases h
  · split at h
    · split at h
      · rename_i e1; cases h
        intro t q
        rw [br_eq] at q
        split at q
        · rename_i e2; exact XS.ifYes X.here hx rfl rfl hd rfl (by rw [if0]; exact e2) e1 rfl q
        · rename_i e2; exact XS.ifNo X.here hx rfl hd rfl (by rw [if0]; simpa using e2) q
      · cases h
    · cases h
  · split at h
    · split at h
      · rename_i e1; cases h
        intro t q
        rw [br_eq] at q
        split at q
        · rename_i e2; exact XS.icmpYes X.here hx rfl rfl hd rfl e2 e1 rfl q
        · rename_i e2; exact XS.icmpNo X.here hx rfl hd rfl (by simpa using e2) q
      · cases h
    · cases h
  · exact absurd rfl hsw
  · cases h
theorem pstep_sound (X : Stand p l e R s m args below meth c T locs cells slots) (hx : p.tables.exec = Jvm.exec) {ρ : Nat → Nat} {i : Instr} {n pc pc' : Nat} {ls ls' : Lv} {st st' : List Value}
    (h : pstep i pc ls st = some (pc', ls', st')) (hd : decode c.code pc = .ok (i, n)) (hn : isSw i = true ∨ n = ilen i) {L : Array Slot} (hL : LR ρ ls L) :
    ∃ L', LR ρ ls' L' ∧ L'.size = L.size ∧ ∀ target, Steps p.tables e below (T.setTop (mkF m pc' L' (st'.map (va ρ)))) target → Steps p.tables e below (T.setTop (mkF m pc L (st.map (va ρ)))) target := by
  by_cases hsw : isSw i = true
  · cases i <;> first | exact absurd hsw Bool.false_ne_true | skip
    simp only [pstep] at h
    split at h
    · rename_i e1; cases h; exact ⟨L, hL, rfl, qstep_sound X hx e1 hd hn⟩
    · cases h
  obtain rfl := hn.resolve_left hsw
  unfold pstep at h
  split at h
  -- loads
  · split at h
    · rename_i e1; cases h; exact ⟨L, hL, rfl, fun t q => XS.iloadN X.here hx rfl hd (hL.2.1 _ _ e1) q⟩
    · cases h
  · split at h
    · rename_i e1; cases h; exact ⟨L, hL, rfl, fun t q => XS.iload X.here hx rfl hd (hL.2.1 _ _ e1) q⟩
    · cases h
  · split at h
    · rename_i e1; cases h; exact ⟨L, hL, rfl, fun t q => XT.lloadN X.here hx rfl hd (hL.2.1 _ _ e1) q⟩
    · cases h
  · split at h
    · rename_i e1; cases h; exact ⟨L, hL, rfl, fun t q => XT.lload X.here hx rfl hd (hL.2.1 _ _ e1) q⟩
    · cases h
  · split at h
    · rename_i e1; cases h; exact ⟨L, hL, rfl, fun t q => XS.aloadN X.here hx rfl hd (hL.2.1 _ _ e1) rfl q⟩
    · cases h
  · split at h
    · rename_i e1; cases h; exact ⟨L, hL, rfl, fun t q => XS.aload X.here hx rfl hd (hL.2.1 _ _ e1) rfl q⟩
    · cases h
  -- stores
  · split at h
    · split at h
      · rename_i e1; cases h
        obtain ⟨L', a1, a2, a3⟩ := store_ok hL (fun x => by simp) e1
        exact ⟨L', a2, a3, fun t q => XS.istoreN X.here hx rfl hd rfl a1 q⟩
      · cases h
    · cases h
  · split at h
    · split at h
      · rename_i e1; cases h
        obtain ⟨L', a1, a2, a3⟩ := store_ok hL (fun x => by simp) e1
        exact ⟨L', a2, a3, fun t q => XS.istore X.here hx rfl hd rfl a1 q⟩
      · cases h
    · cases h
  · split at h
    · split at h
      · rename_i e1; cases h
        obtain ⟨L', a1, a2, a3⟩ := store_ok hL (fun x => by simp) e1
        exact ⟨L', a2, a3, fun t q => XT.lstoreN X.here hx rfl hd rfl a1 q⟩
      · cases h
    · cases h
  · split at h
    · split at h
      · rename_i e1; cases h
        obtain ⟨L', a1, a2, a3⟩ := store_ok hL (fun x => by simp) e1
        exact ⟨L', a2, a3, fun t q => XT.lstore X.here hx rfl hd rfl a1 q⟩
      · cases h
    · cases h
  · split at h
    · split at h
      · rename_i e1; cases h
        obtain ⟨L', a1, a2, a3⟩ := store_ok hL (fun x => by simp) e1
        exact ⟨L', a2, a3, fun t q => XS.astoreN X.here hx rfl hd rfl rfl a1 q⟩
      · cases h
    · cases h
  · split at h
    · split at h
      · rename_i e1; cases h
        obtain ⟨L', a1, a2, a3⟩ := store_ok hL (fun x => by simp) e1
        exact ⟨L', a2, a3, fun t q => XS.astore X.here hx rfl hd rfl rfl a1 q⟩
      · cases h
    · cases h
  · split at h
    · rename_i e0
      split at h
      · rename_i e1; cases h
        obtain ⟨L', a1, a2, a3⟩ := store_ok hL (fun x => by simp) e1
        exact ⟨L', a2, a3, fun t q => XS.iinc X.here hx rfl hd (hL.2.1 _ _ e0) a1 q⟩
      · cases h
    · cases h
  · rename_i hq
    split at h
    · rename_i e1; cases h; exact ⟨L, hL, rfl, qstep_sound X hx e1 hd hn⟩
    · cases h
end Pure
/-! the class's own machine -/
def nd : List Value → Bool
  | [] => true
  | .double _ :: _ => false
  | _ :: r => nd r
theorem nd_spec {as : List Value} (h : nd as = true) : ∀ v ∈ as, ∀ x, v ≠ .double x := by
  induction as with
  | nil => intro v hv; cases hv
  | cons w r ih =>
    intro v hv x e
    rcases List.mem_cons.mp hv with q | q
    · subst q; subst e; cases h
    · refine ih ?_ v q x e
      cases w <;> first | exact h | cases h
def layA : List Value → Lv
  | [] => []
  | .long x :: r => some (.long x) :: none :: layA r
  | v :: r => some v :: layA r
def lay (as : List Value) (n : Nat) : Lv := layA as ++ List.replicate (n - (layA as).length) none
def cats (st : List Value) : Nat := (st.map fun v => v.category).sum
def tyOf : Nat → FieldType
  | 0 => .int
  | 1 => .boolean
  | _ => .long
def atOf : Nat → ArrayType
  | 0 => .int
  | 1 => .boolean
  | _ => .long
def retOf : Nat → Option FieldType
  | 0 => none
  | 1 => some .int
  | 2 => some .boolean
  | _ => some .long
def zs (al : List (Nat × Nat)) (c : Nat) : Nat := ((al.take c).map (·.2)).sum
abbrev Rs := Option (Option Value × St)
def cret (me : Me) (st : List Value) (i : Instr) : Option (Option Value) :=
  match i with
  | .ireturn => match st with
    | [.int x] => if me.rt = 1 then some (some (.int x)) else if me.rt = 2 then some (some (.int (x &&& 1))) else none
    | _ => none
  | .lreturn => match st with
    | [.long x] => if me.rt = 3 then some (some (.long x)) else none
    | _ => none
  | .return_ => match st with
    | [] => if me.rt = 0 then some none else none
    | _ => none
  | _ => none
def isRet : Instr → Bool
  | .ireturn => true
  | .lreturn => true
  | .return_ => true
  | _ => false
def gfld (P : Cl) (x : Nat) (c : Nat) (s : St) : Option Value :=
  match asc P.fx x with
  | none => none
  | some k => match asc P.fs k with
    | none => none
    | some fe => match fe.2.2.1 with
      | 0 => some (.int (gI s 0 k))
      | 1 => some (.int (gI s 0 k))
      | 2 => some (.long (gL s 0 k))
      | j + 3 => if j < c then some (.ref (j + 1)) else none
def pfld (P : Cl) (x : Nat) (ini : Bool) (v : Value) (s : St) : Option St :=
  match asc P.fx x with
  | none => none
  | some k => match asc P.fs k with
    | none => none
    | some fe => if fe.2.2.2 = true ∧ ini = false then none else
      match fe.2.2.1, v with
      | 0, .int z => some (sI s 0 k z)
      | 1, .int z => some (sI s 0 k (z &&& 1))
      | 2, .long z => some (sL s 0 k z)
      | _, _ => none
def newF (P : Cl) (t : ArrayType) (cd : Cd) (pc c : Nat) (st : List Value) : Bool :=
  match st with
  | [.int n, .ref 0] => match fetch cd (pc + 2) with
    | some (.putfield x, 3) => match asc P.fx x with
      | some k => match asc P.fs k with
        | some fe => match P.al[c]? with
          | some (tt, N) => decide (fe.2.2.1 = c + 3 ∧ t = atOf tt ∧ 0 ≤ n.toInt ∧ n.toInt = N ∧ N < 1000000)
          | none => false
        | none => false
      | none => false
    | _ => false
  | _ => false
def lda (P : Cl) (tt c : Nat) (st : List Value) (s : St) : Option (List Value) :=
  match st with
  | .int i :: .ref (a + 1) :: r => match P.al[a]? with
    | some (t2, N) => if t2 = tt ∧ a < c then (if inb N i then some ((if tt = 2 then .long (gL s (a + 1) (ix i)) else .int (gI s (a + 1) (ix i))) :: r) else none) else none
    | none => none
  | _ => none
def sta (P : Cl) (tt c : Nat) (st : List Value) (s : St) : Option (List Value × St) :=
  match st with
  | v :: .int i :: .ref (a + 1) :: r => match P.al[a]? with
    | some (t2, N) => if t2 = tt ∧ a < c then (if inb N i then (match tt, v with
        | 0, .int z => some (r, sI s (a + 1) (ix i) z)
        | 1, .int z => some (r, sI s (a + 1) (ix i) (z &&& 1))
        | 2, .long z => some (r, sL s (a + 1) (ix i) z)
        | _, _ => none) else none) else none
    | none => none
  | _ => none
def cstep {α : Type} (P : Cl) (mi : Nat) (me : Me) (rt : Option Value → St → Option α) (cl : Nat → Nat → List Value → St → Rs) (k : Nat → Nat → Lv → List Value → St → Option α) (i : Instr) (c pc : Nat) (ls : Lv) (st : List Value) (s : St) : Option α :=
  match i with
  | .getfield x => match st with
    | .ref 0 :: r => (match gfld P x c s with | some v => k c (pc + 3) ls (v :: r) s | none => none)
    | _ => none
  | .putfield x => match st with
    | v :: .ref 0 :: r => (match pfld P x (mi == 0) v s with | some s' => k c (pc + 3) ls r s' | none => none)
    | _ => none
  | .iaload => match lda P 0 c st s with | some st' => k c (pc + 1) ls st' s | none => none
  | .baload => match lda P 1 c st s with | some st' => k c (pc + 1) ls st' s | none => none
  | .laload => match lda P 2 c st s with | some st' => k c (pc + 1) ls st' s | none => none
  | .iastore => match sta P 0 c st s with | some (st', s') => k c (pc + 1) ls st' s' | none => none
  | .bastore => match sta P 1 c st s with | some (st', s') => k c (pc + 1) ls st' s' | none => none
  | .lastore => match sta P 2 c st s with | some (st', s') => k c (pc + 1) ls st' s' | none => none
  | .newarray t => if mi = 0 ∧ newF P t me.cd pc c st = true then k (c + 1) (pc + 5) ls [] s else none
  | .ldc x => match asc P.kx x with | some (.int z) => k c (pc + 2) ls (.int z :: st) s | _ => none
  | .ldc2_w x => match asc P.kx x with | some (.long z) => k c (pc + 3) ls (.long z :: st) s | _ => none
  | .invokespecial x => match st with
    | .ref 0 :: r => if x = P.oi ∧ 1 ≤ me.rf ∧ cats r + 12 ≤ me.rl then k c (pc + 3) ls r s else none
    | _ => none
  | .invokevirtual x => match asc P.mx x with
    | none => none
    | some m' => match asc P.ms m' with
      | none => none
      | some me' => match st.drop me'.na with
        | .ref 0 :: r => if m' ≠ 0 ∧ me'.rf + 1 ≤ me.rf ∧ cats r + (me'.ml + 11) + me'.rl ≤ me.rl ∧ nd (st.take me'.na) = true then
            (match cl m' c (.ref 0 :: (st.take me'.na).reverse) s with
             | some (none, s') => k c (pc + 3) ls r s'
             | some (some v, s') => k c (pc + 3) ls (v :: r) s'
             | none => none) else none
        | _ => none
  | i => if isRet i = true then (if mi = 0 ∧ c ≠ P.al.length then none else match cret me st i with | some v => rt v s | none => none)
    else match pstep i pc ls st with | some (pc', ls', st') => k c pc' ls' st' s | none => none
def cexec (P : Cl) : Nat → Nat → Me → Nat → Nat → Lv → List Value → St → Rs
  | 0, _, _, _, _, _, _, _ => none
  | f + 1, mi, me, c, pc, ls, st, s => match fetch me.cd pc with
    | none => none
    | some (i, _) => cstep P mi me (fun v s => some (v, s)) (fun m' c as s => match asc P.ms m' with | some me' => (if (layA as).length ≤ me'.ml then cexec P f m' me' c 0 (lay as me'.ml) [] s else none) | none => none) (cexec P f mi me) i c pc ls st s
def ccall (P : Cl) (f m' c : Nat) (as : List Value) (s : St) : Rs := match asc P.ms m' with | some me' => (if (layA as).length ≤ me'.ml then cexec P f m' me' c 0 (lay as me'.ml) [] s else none) | none => none
end Jvm.LM

namespace Jvm.LM
open Sem ClassFile Op Lib Jvm.Stand Jvm.Free Jvm.LawKit Jvm.RoadKit
/-! how the machine's state stands in the heap -/
theorem adr_ne (a j : Nat) : a + (j + 1) ≠ a := by omega
theorem adr_ne' (a j : Nat) : a ≠ a + (j + 1) := by omega
theorem adr_ne2 (a : Nat) {j k : Nat} (h : j ≠ k) : a + (j + 1) ≠ a + (k + 1) := by omega
def Fval (adr c : Nat) (s : St) (k : Nat) (fe : Fe) : Value :=
  match fe.2.2.1 with
  | 0 => .int (gI s 0 k)
  | 1 => .int (gI s 0 k)
  | 2 => .long (gL s 0 k)
  | j + 3 => if j < c then .ref (adr + (j + 1)) else .null
def elv (tt : Nat) (s : St) (j i : Nat) : Value := if tt = 2 then .long (gL s j i) else .int (gI s j i)
def ARep (Z : State) (h : Heap) (a tt N : Nat) (s : St) (j : Nat) : Prop :=
  ∃ cl : Cell, Arr Z h a cl (tyOf tt) ∧ cl.slots.size = N ∧ ∀ i, i < N → cl.slots[i]? = some (elv tt s j i)
def HRep (P : Cl) (Z : State) (h : Heap) (adr c : Nat) (s : St) : Prop :=
  Exa Z h adr P.nm ∧ (∀ k fe, asc P.fs k = some fe → Fld Z h adr P.nm fe.1 fe.2.1 (Fval adr c s k fe)) ∧
  (∀ (j tt N : Nat), P.al[j]? = some (tt, N) → j < c → ARep Z h (adr + (j + 1)) tt N s (j + 1)) ∧
  (∀ j i, c < j → gI s j i = 0 ∧ gL s j i = 0) ∧ c ≤ P.al.length
def fkTy (P : Cl) : Nat → FieldType
  | 0 => .int
  | 1 => .boolean
  | 2 => .long
  | j + 3 => .array (tyOf ((P.al[j]?.map (·.1)).getD 0))
def yOf (P : Cl) (me : Me) : MethodName := ⟨P.nm, me.nm, me.ds⟩
def LinkC (P : Cl) (Z : State) (a0 : Array Value) : Prop :=
  ((∃ nF, (Cond.instantiable P.nm nF).before a0 Z = true) ∧ (Cond.initialized P.nm).before a0 Z = true) ∧
  (∀ x k, asc P.fx x = some k → ∀ fe, asc P.fs k = some fe → (Cond.fieldLink P.nm x P.nm fe.1 fe.2.1).before a0 Z = true) ∧
  (∀ k fe, asc P.fs k = some fe → (if fe.2.2.2 = true then Cond.laysFinal P.nm P.nm fe.1 fe.2.1 else Cond.lays P.nm P.nm fe.1 fe.2.1).before a0 Z = true) ∧
  (∀ k fe, asc P.fs k = some fe → parseFieldDescriptor fe.2.1 = some (fkTy P fe.2.2.1)) ∧
  (∀ k k' fe fe', asc P.fs k = some fe → asc P.fs k' = some fe' → k ≠ k' → fe.1 ≠ fe'.1 ∧ (3 ≤ fe.2.2.1 → fe.2.2.1 ≠ fe'.2.2.1)) ∧
  (∀ (j tt N : Nat), P.al[j]? = some (tt, N) → tt ≤ 2 ∧ (Cond.arrayClass (tyOf tt)).before a0 Z = true) ∧
  (∀ x v, asc P.kx x = some v → match v with
    | .int z => (Cond.constant P.nm x z).before a0 Z = true
    | .long z => (Cond.constantLong P.nm x z).before a0 Z = true
    | _ => True) ∧
  ((Cond.methodLink P.nm P.oi Lib.objectInit).before a0 Z = true ∧ (Cond.instanceMethod Lib.objectInit).before a0 Z = true ∧ (Cond.code Lib.objectInit ⟨#[0xb1]⟩ 1 none).before a0 Z = true) ∧
  (∀ mi me, asc P.ms mi = some me → ∃ (bytes : ByteArray) (ps : List FieldType), (Cond.code (yOf P me) bytes me.ml (retOf me.rt)).before a0 Z = true ∧
    (∀ pc i n, fetch me.cd pc = some (i, n) → decode bytes pc = .ok (i, n) ∧ (isSw i = true ∨ n = ilen i)) ∧ parseMethodDescriptor me.ds = some ⟨ps, retOf me.rt⟩ ∧ ps.length = me.na) ∧
  (∀ x mi, asc P.mx x = some mi → ∀ me, asc P.ms mi = some me → (Cond.methodLink P.nm x (yOf P me)).before a0 Z = true ∧ (Cond.instanceMethod (yOf P me)).before a0 Z = true ∧
    ((Cond.privateMethod (yOf P me)).before a0 Z = true ∨ ((Cond.declares (yOf P me)).before a0 Z = true ∧ (Cond.selects P.nm (yOf P me) (yOf P me)).before a0 Z = true))) ∧
  plainName P.nm = true ∧ (P.nm ≠ "java/lang/invoke/MethodHandle" ∧ P.nm ≠ "java/lang/invoke/VarHandle") ∧ (∀ me, asc P.ms 0 = some me → me.nm = "<init>")
theorem gI_sI (s : St) (c j : Nat) (v : Int32) (a b : Nat) : gI (sI s c j v) a b = if a = c ∧ b = j then v else gI s a b := rfl
theorem gL_sI (s : St) (c j : Nat) (v : Int32) (a b : Nat) : gL (sI s c j v) a b = gL s a b := rfl
theorem gI_sL (s : St) (c j : Nat) (v : Int64) (a b : Nat) : gI (sL s c j v) a b = gI s a b := rfl
theorem gL_sL (s : St) (c j : Nat) (v : Int64) (a b : Nat) : gL (sL s c j v) a b = if a = c ∧ b = j then v else gL s a b := rfl
theorem laid_of {P : Cl} {Z : State} {a0 : Array Value} (LK : LinkC P Z a0) {k : Nat} {fe : Fe} (hk : asc P.fs k = some fe) : Laid Z a0 P.nm P.nm fe.1 fe.2.1 := by
  have q := LK.2.2.1 k fe hk
  split at q
  · exact Or.inr q
  · exact Or.inl q
/-- a heap that is alike where the object lies -/
theorem HRep.congr {P : Cl} {Z : State} {h h' : Heap} {adr c : Nat} {s : St} (H : HRep P Z h adr c s) (e : ∀ x, adr ≤ x → x < adr + 1 + P.al.length → h'[x]? = h[x]?) : HRep P Z h' adr c s := by
  obtain ⟨h1, h2, h3, h4, h5⟩ := H
  have ea : h'[adr]? = h[adr]? := e adr (Nat.le_refl _) (by omega)
  refine ⟨?_, fun k fe hk => ?_, fun j tt N hj hc => ?_, h4, h5⟩
  · obtain ⟨cell, k, q1, r⟩ := h1; exact ⟨cell, k, by rw [ea]; exact q1, r⟩
  · obtain ⟨cell, cf, k, i, f, q1, r⟩ := h2 k fe hk; exact ⟨cell, cf, k, i, f, by rw [ea]; exact q1, r⟩
  · obtain ⟨cl, ⟨q1, q2⟩, q3⟩ := h3 j tt N hj hc
    exact ⟨cl, ⟨by rw [e _ (by omega) (by omega)]; exact q1, q2⟩, q3⟩
theorem HRep.putFld {P : Cl} {Z : State} {a0 : Array Value} (LK : LinkC P Z a0) {h h' : Heap} {adr c k : Nat} {fe : Fe} {s s' : St} {v : Value} (H : HRep P Z h adr c s) (hk : asc P.fs k = some fe)
    (W : Wr h h' adr (RoadKit.slotOf Z P.nm fe.1 fe.2.1) v) (hv : v = Fval adr c s' k fe) (hI : ∀ a b, (a ≠ 0 ∨ b ≠ k) → gI s' a b = gI s a b ∧ gL s' a b = gL s a b) : HRep P Z h' adr c s' := by
  obtain ⟨h1, h2, h3, h4, h5⟩ := H
  refine ⟨h1.wr W, fun k2 fe2 hk2 => ?_, fun j tt N hj hc => ?_, fun j i hj => ?_, h5⟩
  · by_cases e : k2 = k
    · subst e; cases hk.symm.trans hk2
      rw [← hv]; exact (h2 _ _ hk).same W
    · have hne := (LK.2.2.2.2.1 _ _ _ _ hk2 hk e).1
      have q := (h2 _ _ hk2).other W (Or.inr (slot_ne (laid_of LK hk2) (laid_of LK hk) hne (LK.2.2.2.1 _ _ hk2) (LK.2.2.2.1 _ _ hk)))
      have e2 : Fval adr c s' k2 fe2 = Fval adr c s k2 fe2 := by
        have := hI 0 k2 (Or.inr e)
        simp only [Fval]; split <;> simp [this.1, this.2]
      rw [e2]; exact q
  · obtain ⟨cl, q1, q2, q3⟩ := h3 j tt N hj hc
    refine ⟨cl, q1.other W (adr_ne _ _), q2, fun i hi => ?_⟩
    have := hI (j + 1) i (Or.inl (by omega))
    rw [q3 i hi]; simp only [elv, this.1, this.2]
  · have := hI j i (Or.inl (by omega))
    rw [this.1, this.2]; exact h4 j i hj
theorem HRep.putArr {P : Cl} {Z : State} {h h' : Heap} {adr c a tt N n : Nat} {s s' : St} {v : Value} (H : HRep P Z h adr c s) (ha : P.al[a]? = some (tt, N)) (hac : a < c) (hn : n < N)
    (W : Wr h h' (adr + (a + 1)) n v) (hv : v = elv tt s' (a + 1) n) (hI : ∀ x y, (x ≠ a + 1 ∨ y ≠ n) → gI s' x y = gI s x y ∧ gL s' x y = gL s x y) : HRep P Z h' adr c s' := by
  obtain ⟨h1, h2, h3, h4, h5⟩ := H
  refine ⟨h1.wr W, fun k fe hk => ?_, fun j tt2 N2 hj hc => ?_, fun j i hj => ?_, h5⟩
  · have q := (h2 _ _ hk).other W (Or.inl (adr_ne' _ _))
    have e2 : Fval adr c s' k fe = Fval adr c s k fe := by
      have := hI 0 k (Or.inl (by omega))
      simp only [Fval]; split <;> simp [this.1, this.2]
    rw [e2]; exact q
  · obtain ⟨cl, q1, q2, q3⟩ := h3 j tt2 N2 hj hc
    by_cases e : j = a
    · subst e; cases ha.symm.trans hj
      refine ⟨cl.setSlot n v, q1.same W, by rw [sz_set]; exact q2, fun i hi => ?_⟩
      by_cases ei : i = n
      · subst ei; rw [← hv]; simp [Cell.setSlot, q2, hi]
      · have := hI (j + 1) i (Or.inr ei)
        have q4 := q3 i hi
        simp only [elv, this.1, this.2] at q4 ⊢
        simp only [Cell.setSlot]
        rw [Array.getElem?_setIfInBounds_ne (fun q => ei q.symm)]; exact q4
    · refine ⟨cl, q1.other W (adr_ne2 _ e), q2, fun i hi => ?_⟩
      have := hI (j + 1) i (Or.inl (by omega))
      rw [q3 i hi]; simp only [elv, this.1, this.2]
  · have := hI j i (Or.inl (by omega))
    rw [this.1, this.2]; exact h4 j i hj
theorem HRep.newArr {P : Cl} {Z : State} {a0 : Array Value} (LK : LinkC P Z a0) {h h1 h2 : Heap} {adr c k tt N : Nat} {fe : Fe} {s : St} {n : Int32} {cA : ClassId} (H : HRep P Z h adr c s) (hk : asc P.fs k = some fe) (hkd : fe.2.2.1 = c + 3)
    (ha : P.al[c]? = some (tt, N)) (hn0 : 0 ≤ n.toInt) (hn : n.toInt = N) (hsz : h.size = adr + 1 + c) (E : Ext h h1) (A : Arr Z h1 h.size (newA cA (tyOf tt) n) (tyOf tt)) (W : Wr h1 h2 adr (RoadKit.slotOf Z P.nm fe.1 fe.2.1) (.ref h.size)) : HRep P Z h2 adr (c + 1) s := by
  obtain ⟨g1, g2, g3, g4, g5⟩ := H
  have hc : c < P.al.length := (List.getElem?_eq_some_iff.mp ha).1
  have hNn : n.toNatClampNeg = N := by simp only [Int32.toNatClampNeg]; omega
  have htt := (LK.2.2.2.2.2.1 _ _ _ ha).1
  refine ⟨(g1.ext E).wr W, fun k2 fe2 hk2 => ?_, fun j tt2 N2 hj hjc => ?_, fun j i hj => g4 j i (by omega), hc⟩
  · by_cases e : k2 = k
    · subst e; cases hk.symm.trans hk2
      have q := ((g2 _ _ hk).ext E).same W
      have e2 : Fval adr (c + 1) s k2 fe = .ref h.size := by simp only [Fval, hkd]; rw [if_pos (Nat.lt_succ_self c), hsz]; exact congrArg Value.ref (show adr + (c + 1) = adr + 1 + c by omega)
      rw [e2]; exact q
    · have hne := LK.2.2.2.2.1 _ _ _ _ hk2 hk e
      have q := ((g2 _ _ hk2).ext E).other W (Or.inr (slot_ne (laid_of LK hk2) (laid_of LK hk) hne.1 (LK.2.2.2.1 _ _ hk2) (LK.2.2.2.1 _ _ hk)))
      have e2 : Fval adr (c + 1) s k2 fe2 = Fval adr c s k2 fe2 := by
        simp only [Fval]; split
        · rfl
        · rfl
        · rfl
        · rename_i j hj
          have : j ≠ c := fun q => (hne.2 (by rw [hj]; omega)) (by rw [hj, hkd, q])
          by_cases b : j < c
          · rw [if_pos b, if_pos (by omega)]
          · rw [if_neg b, if_neg (by omega)]
      rw [e2]; exact q
  · by_cases e : j = c
    · subst e; cases ha.symm.trans hj
      have hA : Arr Z h2 h.size (newA cA (tyOf tt) n) (tyOf tt) := A.other W (show h.size ≠ adr by omega)
      refine ⟨newA cA (tyOf tt) n, by rw [show adr + (j + 1) = h.size by omega]; exact hA, by rw [sz_new]; exact hNn, fun i hi => ?_⟩
      have z := g4 (j + 1) i (by omega)
      simp only [newA, hNn, elv, z.1, z.2]
      rw [Array.getElem?_replicate, if_pos hi]
      have : tt = 0 ∨ tt = 1 ∨ tt = 2 := by omega
      rcases this with rfl | rfl | rfl <;> rfl
    · obtain ⟨cl, q1, q2, q3⟩ := g3 j tt2 N2 hj (by omega)
      exact ⟨cl, (q1.ext E).other W (adr_ne _ _), q2, q3⟩
/-- outside the object nothing moves -/
def Kp (h0 h : Heap) (adr n : Nat) : Prop := ∀ x, (x < adr ∨ adr + 1 + n ≤ x) → h[x]? = h0[x]?
theorem Kp.wr {h0 h h' : Heap} {adr n a sl : Nat} {v : Value} (K : Kp h0 h adr n) (W : Wr h h' a sl v) (h1 : adr ≤ a) (h2 : a < adr + 1 + n) : Kp h0 h' adr n := fun x hx => by
  obtain ⟨cell, q1, q2, q3, rfl⟩ := W
  rw [Array.getElem?_setIfInBounds_ne (by omega)]; exact K x hx
theorem Kp.ext {h0 h h' : Heap} {adr n : Nat} (K : Kp h0 h adr n) (E : Ext h h') (h1 : h'.size ≤ adr + 1 + n) (h2 : adr ≤ h.size) : Kp h0 h' adr n := fun x hx => by
  rw [← K x hx]
  by_cases b : x < h.size
  · obtain ⟨c, hc⟩ : ∃ c, h[x]? = some c := ⟨h[x], Array.getElem?_eq_getElem b⟩
    rw [hc]; exact E.2 _ _ hc
  · rw [Array.getElem?_eq_none (by omega), Array.getElem?_eq_none (by omega)]
theorem Kp.trans {h0 h h' : Heap} {adr n : Nat} (K : Kp h0 h adr n) (K' : Kp h h' adr n) : Kp h0 h' adr n := fun x hx => (K' x hx).trans (K x hx)
def cRoom (P : Cl) (mi : Nat) (me : Me) : Room := { frames := me.rf, cells := if mi = 0 then P.al.length else 0, slots := if mi = 0 then zs P.al P.al.length else 0, locals := me.rl }
def QC (P : Cl) (Z : State) (n0 adr mi c : Nat) (w : Option Value) (s' : St) (h0 : Heap) (v : Option Value) (h : Heap) (L : List Loc) : Prop :=
  (v = w ∧ ∀ ρ, v.toList.map (va ρ) = v.toList) ∧ Fr n0 L ∧ HRep P Z h adr (if mi = 0 then P.al.length else c) s' ∧ Kp h0 h adr P.al.length ∧ h.size = (if mi = 0 then adr + 1 + P.al.length else h0.size)
/-- the run from S ends, and so -/
def Don (p : Program) (e : Env) (below : List Frame) (s₀ : State) (rm : Room) (Q : Option Value → Heap → List Loc → Prop) (S : State) : Prop :=
  ∃ s₂ o, Steps p.tables e below S s₂ ∧ s₂.status = .running ∧ Ended s₂ below o ∧ ∃ v L, o = .returned v ∧ Q v s₂.heap L ∧ FrameEnd s₀ o s₂ L rm.cells rm.slots
theorem Don.step {p : Program} {e : Env} {below : List Frame} {s₀ : State} {rm : Room} {Q : Option Value → Heap → List Loc → Prop} {S S' : State} (h : ∀ t, Steps p.tables e below S' t → Steps p.tables e below S t) (D : Don p e below s₀ rm Q S') : Don p e below s₀ rm Q S := by
  obtain ⟨s₂, o, h1, h2⟩ := D; exact ⟨s₂, o, h _ h1, h2⟩
def Inv (P : Cl) (Z : State) (n0 adr mi c : Nat) (s : St) (h0 h : Heap) (locs : List Loc) : Prop :=
  HRep P Z h adr c s ∧ Fr n0 locs ∧ Kp h0 h adr P.al.length ∧ h.size = (if mi = 0 then adr + 1 + c else h0.size)
def co (mi c : Nat) : Nat := if mi = 0 then c else 0
def zo (P : Cl) (mi c : Nat) : Nat := if mi = 0 then zs P.al c else 0
/-- what the walk of a body is to show, at a given fuel -/
def CW (P : Cl) (Z : State) (n0 adr f mi : Nat) (me : Me) : Prop :=
  ∀ (p : Program) (l : Launch) (e : Env) (s₀ : State) (m : MethodId) (args : Array Value) (below : List Frame) (meth : Method) (cd : Code) (T : State) (locs : List Loc) (h0 : Heap) (c pc : Nat) (ls : Lv) (st : List Value) (s : St) (v : Option Value) (s' : St) (L : Array Slot),
    p.tables.exec = Jvm.exec → Z.Warmed39 s₀.vm → s₀.vm.findClass P.nm = some m.cls → meth.name = me.nm → meth.sig.returnType = retOf me.rt → cd.maxLocals = me.ml → meth.locks = false → (mi = 0 → s₀.heap.size = adr + 1) →
    (∀ pc i n, fetch me.cd pc = some (i, n) → decode cd.code pc = .ok (i, n) ∧ (isSw i = true ∨ n = ilen i)) →
    cexec P f mi me c pc ls st s = some (v, s') →
    Stand p l e (cRoom P mi me) s₀ m args below meth cd T locs (co mi c) (zo P mi c) →
    Inv P Z n0 adr mi c s h0 T.heap locs → LR (adr + ·) ls L → ls.length = me.ml →
    Don p e below s₀ (cRoom P mi me) (QC P Z n0 adr mi c v s' h0) (T.setTop (mkF m pc L (st.map (va (adr + ·)))))
theorem zs_mono (al : List (Nat × Nat)) {a b : Nat} (h : a ≤ b) : zs al a ≤ zs al b := by
  obtain ⟨d, rfl⟩ := Nat.le.dest h
  simp only [zs]
  rw [List.take_add, List.map_append, List.sum_append]; omega
theorem zs_succ (al : List (Nat × Nat)) {c tt N : Nat} (h : al[c]? = some (tt, N)) : zs al (c + 1) = zs al c + N := by
  simp only [zs, List.take_add_one, h]; simp
theorem zs_le (al : List (Nat × Nat)) (a : Nat) : zs al a ≤ zs al al.length := by
  by_cases h : a ≤ al.length
  · exact zs_mono al h
  · simp only [zs]; rw [List.take_of_length_le (by omega), List.take_of_length_le (Nat.le_refl _)]
    exact Nat.le_refl _
theorem narrow_I (z : Int32) : narrow .int (.int z) = .int z := rfl
theorem inb_not {n : Nat} {i : Int32} (h : inb n i) : ¬ (i < 0 ∨ n ≤ i.toNatClampNeg) := by
  intro q
  simp only [Int32.lt_iff_toInt_lt, Int32.toNatClampNeg, Int32.reduceToInt] at q
  have := h.1; have := h.2
  omega
theorem inb_ix {n : Nat} {i : Int32} (h : inb n i) : ix i < n := by
  have := h.1; have := h.2
  simp only [ix, Int32.toNatClampNeg]; omega
end Jvm.LM

namespace Jvm.LM
open Sem ClassFile Op Lib Jvm.Stand Jvm.Free Jvm.LawKit Jvm.RoadKit
/-! entering a method -/
def slA : List Value → List Slot
  | [] => []
  | v :: r => if v.category = 2 then .val v :: .second :: slA r else .val v :: slA r
theorem foldl_slA (as : List Value) (acc : Array Slot) : as.foldl (fun acc v => if v.category = 2 then (acc.push (.val v)).push .second else acc.push (.val v)) acc = acc ++ (slA as).toArray := by
  induction as generalizing acc with
  | nil => simp [slA]
  | cons v r ih =>
    rw [List.foldl_cons, ih]
    simp only [slA]
    split <;> simp
theorem al_eq (args : Array Value) (n : Nat) : argsToLocals args n = (let filled := args.foldl (init := #[]) fun acc v => if v.category = 2 then (acc.push (.val v)).push .second else acc.push (.val v); filled ++ Array.replicate (n - filled.size) .unset) := rfl
theorem atl_eq (as : List Value) (n : Nat) : argsToLocals as.toArray n = (slA as ++ List.replicate (n - (slA as).length) Slot.unset).toArray := by
  rw [al_eq]
  have : Array.foldl (fun acc v => if v.category = 2 then (acc.push (Slot.val v)).push .second else acc.push (.val v)) #[] as.toArray = (slA as).toArray := by
    rw [List.foldl_toArray, foldl_slA]; simp
  simp only [this]
  simp
theorem wfl_one {x : Slot} {l : List Slot} (h : WFf (fun k => l[k]?)) (hx : x ≠ .second) (hc : ∀ v, x = .val v → v.category ≠ 2) : WFf (fun k => (x :: l)[k]?) := by
  obtain ⟨h1, h2, h3⟩ := h
  refine ⟨fun k v hk hv => ?_, fun k hk => ?_, ?_⟩
  · cases k with
    | zero => simp at hk; exact absurd hv (hc v hk)
    | succ k => simp at hk ⊢; exact h1 k v hk hv
  · cases k with
    | zero => simp at hk; exact absurd (by simpa using hk) h3
    | succ k => simp at hk ⊢; exact h2 k (by simpa using hk)
  · simpa using hx
theorem wfl_two {v : Value} {l : List Slot} (h : WFf (fun k => l[k]?)) (hc : v.category = 2) : WFf (fun k => (Slot.val v :: .second :: l)[k]?) := by
  obtain ⟨h1, h2, h3⟩ := h
  refine ⟨fun k w hk hv => ?_, fun k hk => ?_, by simp⟩
  · match k with
    | 0 => simp
    | 1 => simp at hk
    | k + 2 => simp at hk ⊢; exact h1 k w hk hv
  · match k with
    | 0 => exact ⟨v, by simp, hc⟩
    | 1 => exact absurd (by simpa using hk) h3
    | k + 2 => simp at hk ⊢; exact h2 k (by simpa using hk)
theorem wfl_rep (n : Nat) : WFf (fun k => (List.replicate n Slot.unset)[k]?) := by
  refine ⟨fun k v hk _ => ?_, fun k hk => ?_, ?_⟩
  · simp [List.getElem?_replicate] at hk
  · simp [List.getElem?_replicate] at hk
  · simp [List.getElem?_replicate]
theorem wfl_slA (as : List Value) (r : List Slot) (h : WFf (fun k => r[k]?)) : WFf (fun k => (slA as ++ r)[k]?) := by
  induction as with
  | nil => simpa [slA] using h
  | cons v t ih =>
    simp only [slA]
    split
    · rename_i hc; exact wfl_two ih hc
    · rename_i hc; exact wfl_one ih (by simp) (fun w hw => by cases hw; exact hc)
theorem slA_len (ρ : Nat → Nat) (as : List Value) (hd : ∀ v ∈ as, ∀ x, v ≠ .double x) : (slA (as.map (va ρ))).length = (layA as).length := by
  induction as with
  | nil => rfl
  | cons v t ih =>
    have ih := ih fun w hw => hd w (List.mem_cons_of_mem _ hw)
    cases v <;> simp [slA, layA, va, Value.category, ih]
    exact absurd rfl (hd _ (List.mem_cons_self ..) _)
theorem layA_get {ρ : Nat → Nat} {as : List Value} (hd : ∀ v ∈ as, ∀ x, v ≠ .double x) {k : Nat} {w : Value} (h : (layA as)[k]? = some (some w)) : (slA (as.map (va ρ)))[k]? = some (.val (va ρ w)) := by
  induction as generalizing k with
  | nil => simp [layA] at h
  | cons v t ih =>
    have ih' := fun {k} => ih (k := k) fun w hw => hd w (List.mem_cons_of_mem _ hw)
    cases v
    case long x =>
      simp only [layA] at h
      match k with
      | 0 => simp at h; subst h; simp [slA, va, Value.category]
      | 1 => simp at h
      | k + 2 => simp at h; simpa [slA, va, Value.category] using ih' h
    case double x => exact absurd rfl (hd _ (List.mem_cons_self ..) _)
    all_goals
      simp only [layA] at h
      match k with
      | 0 => simp at h; subst h; simp [slA, va, Value.category]
      | k + 1 => simp at h; simpa [slA, va, Value.category] using ih' h
theorem lay_LR {ρ : Nat → Nat} {as : List Value} (hd : ∀ v ∈ as, ∀ x, v ≠ .double x) {n : Nat} (hn : (layA as).length ≤ n) : LR ρ (lay as n) (argsToLocals (as.map (va ρ)).toArray n) := by
  rw [atl_eq]
  have hl := slA_len ρ as hd
  refine ⟨by simp [lay, hl], fun k w hk => ?_, ?_⟩
  · simp only [lay] at hk
    rw [List.getElem?_append] at hk
    split at hk
    · have := layA_get (ρ := ρ) hd hk
      rw [List.getElem?_toArray, List.getElem?_append_left (by omega)]; exact this
    · simp [List.getElem?_replicate] at hk
  · have := wfl_slA (as.map (va ρ)) (List.replicate (n - (slA (as.map (va ρ))).length) Slot.unset) (wfl_rep _)
    have q : WFf (fun k => ((slA (as.map (va ρ)) ++ List.replicate (n - (slA (as.map (va ρ))).length) Slot.unset).toArray)[k]?) := by
      simpa using this
    exact q
theorem lay_len {as : List Value} {n : Nat} (hn : (layA as).length ≤ n) : (lay as n).length = n := by simp [lay]; omega
section Call
variable {p : Program} {l : Launch} {e : Env} {R : Room} {s : State} {m : MethodId} {args : Array Value} {below : List Frame} {meth : Method} {c : Code} {T : State} {locs : List Loc} {cells slots : Nat}
/-- a private method of a class that is no interface -/
theorem privCall (X : Stand p l e R s m args below meth c T locs cells slots) (hexec : p.tables.exec = Jvm.exec) {own : String} {index : Nat} {y : MethodName} {bytes : ByteArray} {maxL nF : Nat} {ret : Option FieldType}
    (hown : s.vm.findClass own = some m.cls) (hlink : (Cond.methodLink own index y).before args s = true) (hinst : (Cond.instanceMethod y).before args s = true) (hi : (Cond.instantiable y.cls nF).before args s = true)
    (hpriv : s.PrivateAt y) (hcode : (Cond.code y bytes maxL ret).before args s = true) (hy : y.cls ≠ "java/lang/invoke/MethodHandle" ∧ y.cls ≠ "java/lang/invoke/VarHandle")
    {W : Nat} {Pre : Free.Pt → Array Value → Prop} {Post : Free.Pt → Array Value → Option Value → Free.Pt → Prop} (hK : Free.Back l R p e below s args y 3 W Pre Post)
    {g : JFrame} (hg : g.method = m) (hsize : g.locals.size = c.maxLocals) {a : Addr} {cell : Cell} (hcell : T.heap[a]? = some cell) (hobj : ∀ q, cell.vm ≠ .statics q)
    {argsL rest : List Value} (hlen : ∀ sig, parseMethodDescriptor y.desc = some sig → argsL.length = sig.parameters.length)
    (hstack : g.stack = argsL.reverse ++ .ref a :: rest) (hW : 2 * g.monitorRoom + (rest.map fun v => v.category).sum ≤ W) (hdg : decode c.code g.pc = .ok (.invokevirtual index, 3))
    (hpre : ∀ vm₁, s.WarmedH vm₁ → Pre ⟨T.setVm vm₁, locs, cells, slots⟩ (.ref a :: argsL).toArray) :
    ∃ (v : Option Value) (vm₁ : Vm) (B : Free.Pt), s.WarmedH vm₁ ∧ Stand p l e R s m args below meth c B.U B.locs B.cells B.slots ∧ Post ⟨T.setVm vm₁, locs, cells, slots⟩ (.ref a :: argsL).toArray v B ∧
      Steps p.tables e below (T.setTop g) (B.U.setTop { g with pc := g.pc + 3, stack := v.toList ++ rest }) := by
  obtain ⟨mk, mM, hnamed, hmM, hst, hab⟩ := Cond.instanceMethod_spec hinst
  obtain ⟨mM', cM, hmM', -, -, -, -, -, -, hsig⟩ := Cond.code_spec hnamed hcode
  cases hmM.symm.trans hmM'
  obtain ⟨cc, kk, i1, i2, -, i4, -⟩ := Cond.instantiable_spec hi
  cases (findClass_of_methodNamed hnamed).symm.trans i1
  have hni : kk.isInterface = false := by
    cases q : kk.isInterface
    · rfl
    · rw [q] at i4; simp at i4
  have hsel : selectMethod e.platform s.vm cell.cls mk = .method mk := selectMethod_private hmM (hpriv mk mM hnamed hmM)
  obtain ⟨vm₁, X₁, hstep⟩ := X.invokevirtual hexec hown hlink hnamed hmM hst i2 hni hy hcell hobj hsel hmM hab i2 hni (g := g) hg (hlen _ hsig) hstack hdg
  obtain ⟨v, B, X', hpost, hs⟩ := hK m meth c ⟨T.setVm vm₁, locs, cells, slots⟩ { g with stack := rest } (.invokevirtual index) mk (.ref a :: argsL).toArray X₁ hg hsize hdg hW (X₁.named hnamed) (hpre vm₁ X₁.warmed)
  exact ⟨v, vm₁, B, X₁.warmed, X', hpost, hstep _ fun acts => by rw [doInvoke_state]; exact hs⟩
end Call
theorem cats_va (ρ : Nat → Nat) (st : List Value) : ((st.map (va ρ)).map fun v => v.category).sum = cats st := by
  simp only [cats, List.map_map]; congr 1; exact List.map_congr_left fun v _ => cat_va ρ v
/-- what a method of the class keeps, as a contract, from its walk -/
theorem met_of_CW {P : Cl} {Z : State} {a0 : Array Value} (LK : LinkC P Z a0) {n0 adr f mi : Nat} {me : Me} (hme : asc P.ms mi = some me) (hW : CW P Z n0 adr f mi me) (l : Launch) {bytes : ByteArray}
    (hdec : ∀ pc i n, fetch me.cd pc = some (i, n) → decode bytes pc = .ok (i, n) ∧ (isSw i = true ∨ n = ilen i))
    {as : List Value} (hd : ∀ v ∈ as, ∀ x, v ≠ .double x) (hlen : (layA as).length ≤ me.ml) {c : Nat} {s s' : St} {v : Option Value} {h : Heap} (hr : cexec P f mi me c 0 (lay as me.ml) [] s = some (v, s')) (hc : mi = 0 → c = 0)
    (H : HRep P Z h adr c s) (hsz : mi = 0 → h.size = adr + 1) :
    MetFree l (yOf P me) (head1 [Cond.code (yOf P me) bytes me.ml (retOf me.rt)] (cRoom P mi me)) (fun a U => a = (as.map (va (adr + ·))).toArray ∧ Z.Warmed39 U.vm ∧ U.heap = h) (fun _ _ _ _ _ => True)
      (fun _ U o U' => ∃ w L, o = .returned w ∧ QC P Z n0 adr mi c v s' h w U'.heap L ∧ FrameEnd U o U' L (cRoom P mi me).cells (cRoom P mi me).slots) := by
  refine MetFree.of_bodySF (plainFor_of_name LK.2.2.2.2.2.2.2.2.2.2.1) hisR ?_
  intro p e s₀ m args below meth cd s₁ Bd hml hP hK
  obtain ⟨rfl, hZ, hh⟩ := hP
  have e0 : s₁.heap = h := by rw [← hh, Bd.state]; rfl
  have X0 : Stand p l e (cRoom P mi me) s₀ m _ below meth cd s₁ [] 0 0 := Stand.of_body Bd
  have hown : s₀.vm.findClass P.nm = some m.cls := findClass_of_methodNamed Bd.named
  have hnm : meth.name = me.nm := (name_of_methodNamed Bd.named Bd.method).1
  have hk0 : co mi c = 0 := by simp only [co]; split; · rename_i q; exact hc q
                               · rfl
  have hz0 : zo P mi c = 0 := by
    simp only [zo]; split
    · rename_i q; rw [hc q]; simp [zs]
    · rfl
  have D := hW p l e s₀ m _ below meth cd s₁ [] h c 0 (lay as me.ml) [] s v s' _ Bd.exec hZ hown hnm Bd.returns hml Bd.notSynchronized (fun q => by rw [hh]; exact hsz q)
    (fun pc i n q => by rw [Bd.bytes]; exact hdec pc i n q) hr (by rw [hk0, hz0]; exact X0)
    ⟨by rw [e0]; exact H, Fr.nil n0, by rw [e0]; exact fun x _ => rfl, by
      rw [e0]; split
      · rename_i q; rw [hsz q, hc q]
      · rfl⟩ (lay_LR hd hlen) (lay_len hlen)
  obtain ⟨s₂, o, a1, a2, a3, w, L, a4, a5, a6⟩ := D
  exact ⟨s₂, o, a1, a2, a3, w, L, a4, a5, a6⟩
end Jvm.LM

namespace Jvm.LM
open Sem ClassFile Op Lib Jvm.Stand Jvm.Free Jvm.LawKit Jvm.RoadKit
section Steps
variable {p : Program} {l : Launch} {e : Env} {R : Room} {s₀ : State} {m : MethodId} {args : Array Value} {below : List Frame} {meth : Method} {cd : Code} {T : State} {locs : List Loc} {cells slots : Nat}
variable {P : Cl} {Z : State} {a0 : Array Value} {n0 adr c mi : Nat} {s s' : St} {h0 : Heap}
theorem gfld_val {x : Nat} {w : Value} (hg : gfld P x c s = some w) : ∃ k fe, asc P.fx x = some k ∧ asc P.fs k = some fe ∧ Fval adr c s k fe = va (adr + ·) w := by
  unfold gfld at hg
  split at hg
  · cases hg
  · rename_i k e1
    split at hg
    · cases hg
    · rename_i fe e2
      refine ⟨k, fe, e1, e2, ?_⟩
      simp only [Fval]
      split at hg
      · rename_i e3; cases hg; first | rfl | (rw [e3]; rfl)
      · rename_i e3; cases hg; first | rfl | (rw [e3]; rfl)
      · rename_i e3; cases hg; first | rfl | (rw [e3]; rfl)
      · rename_i j e3
        split at hg
        · rename_i e4; cases hg; first | (simp only [if_pos e4]; rfl) | (rw [e3]; simp only [if_pos e4]; rfl)
        · cases hg
theorem st_get (LK : LinkC P Z a0) (X : Stand p l e R s₀ m args below meth cd T locs cells slots) (hx : p.tables.exec = Jvm.exec) (hZ : Z.Warmed39 s₀.vm) (hown : s₀.vm.findClass P.nm = some m.cls) (H : HRep P Z T.heap adr c s) {x pc : Nat} {w : Value} (hg : gfld P x c s = some w)
    (hd : decode cd.code pc = .ok (.getfield x, 3)) {L : Array Slot} {r : List Value} :
    ∃ T', Stand p l e R s₀ m args below meth cd T' locs cells slots ∧ T'.heap = T.heap ∧ ∀ t, Steps p.tables e below (T'.setTop (mkF m (pc + 3) L (va (adr + ·) w :: r))) t → Steps p.tables e below (T.setTop (mkF m pc L (.ref adr :: r))) t := by
  obtain ⟨k, fe, e1, e2, e3⟩ := gfld_val (adr := adr) hg
  have F := H.2.1 k fe e2
  rw [e3] at F
  exact getF X hx hZ hown (host := "") (Or.inl (LK.2.1 _ _ e1 _ e2)) Via.refl rfl F (g := mkF m pc L (.ref adr :: r)) rfl rfl hd
theorem st_put (LK : LinkC P Z a0) (X : Stand p l e R s₀ m args below meth cd T locs cells slots) (hx : p.tables.exec = Jvm.exec) (hZ : Z.Warmed39 s₀.vm) (hown : s₀.vm.findClass P.nm = some m.cls) (hna : n0 ≤ adr) (I : Inv P Z n0 adr mi c s h0 T.heap locs) {x pc : Nat} {w : Value} {ini : Bool} (hini : ini = true → meth.name = "<init>") (hg : pfld P x ini w s = some s')
    (hd : decode cd.code pc = .ok (.putfield x, 3)) {L : Array Slot} {r : List Value} :
    ∃ T' locs', Stand p l e R s₀ m args below meth cd T' locs' cells slots ∧ Inv P Z n0 adr mi c s' h0 T'.heap locs' ∧ ∀ t, Steps p.tables e below (T'.setTop (mkF m (pc + 3) L r)) t → Steps p.tables e below (T.setTop (mkF m pc L (w :: .ref adr :: r))) t := by
  obtain ⟨H, hFr, hK, hS⟩ := I
  obtain ⟨nF, hnF⟩ := LK.1.1
  unfold pfld at hg
  split at hg
  · cases hg
  · rename_i k e1
    split at hg
    · cases hg
    · rename_i fe e2
      split at hg
      · cases hg
      · rename_i e3
        have hL : (Cond.lays P.nm P.nm fe.1 fe.2.1).before a0 Z = true ∨ ((Cond.laysFinal P.nm P.nm fe.1 fe.2.1).before a0 Z = true ∧ P.nm = P.nm ∧ meth.name = "<init>") := by
          have q := LK.2.2.1 k fe e2
          split at q
          · rename_i e4
            refine Or.inr ⟨q, rfl, hini ?_⟩
            cases ini
            · exact absurd ⟨e4, rfl⟩ e3
            · rfl
          · exact Or.inl q
        have hp := LK.2.2.2.1 k fe e2
        have fin : ∀ {T' : State} {h' : Heap} {v' : Value}, Stand p l e R s₀ m args below meth cd T' (locs ++ [⟨adr, RoadKit.slotOf Z P.nm fe.1 fe.2.1⟩]) cells slots → T'.heap = h' → Wr T.heap h' adr (RoadKit.slotOf Z P.nm fe.1 fe.2.1) v' → v' = Fval adr c s' k fe →
            (∀ a b, (a ≠ 0 ∨ b ≠ k) → gI s' a b = gI s a b ∧ gL s' a b = gL s a b) → Inv P Z n0 adr mi c s' h0 T'.heap (locs ++ [⟨adr, RoadKit.slotOf Z P.nm fe.1 fe.2.1⟩]) := fun {T' h' v'} X' e4 W e5 e6 => by
          rw [e4]
          exact ⟨H.putFld LK e2 W e5 e6, Fr.snoc X' hFr hna, hK.wr W (Nat.le_refl _) (by omega), by rw [W.size]; exact hS⟩
        split at hg
        · rename_i z e4
          cases hg
          rw [e4] at hp
          obtain ⟨T', h', X', q1, W, st⟩ := putF X hx hZ hown (host := "") (Or.inl (LK.2.1 _ _ e1 _ e2)) Via.refl rfl (H.2.1 k fe e2) H.1 hL hnF hp (narrow_I z) rfl (g := mkF m pc L (.int z :: .ref adr :: r)) rfl rfl hd
          refine ⟨T', _, X', fin X' q1 W (by simp only [Fval, e4]; simp [gI_sI]) (fun a b hab => ?_), st⟩
          rw [gI_sI, gL_sI, if_neg (by omega)]; exact ⟨rfl, rfl⟩
        · rename_i z e4
          cases hg
          rw [e4] at hp
          obtain ⟨T', h', X', q1, W, st⟩ := putFN X hx hZ hown (LK.2.1 _ _ e1 _ e2) Via.refl rfl (H.2.1 k fe e2) H.1 hL hnF (v' := .int (z &&& 1)) hp rfl (fits_nar_bool z) (g := mkF m pc L (.int z :: .ref adr :: r)) rfl rfl hd
          refine ⟨T', _, X', fin X' q1 W (by simp only [Fval, e4]; simp [gI_sI]) (fun a b hab => ?_), st⟩
          rw [gI_sI, gL_sI, if_neg (by omega)]; exact ⟨rfl, rfl⟩
        · rename_i z e4
          cases hg
          rw [e4] at hp
          obtain ⟨T', h', X', q1, W, st⟩ := putF X hx hZ hown (host := "") (Or.inl (LK.2.1 _ _ e1 _ e2)) Via.refl rfl (H.2.1 k fe e2) H.1 hL hnF hp rfl rfl (g := mkF m pc L (.long z :: .ref adr :: r)) rfl rfl hd
          refine ⟨T', _, X', fin X' q1 W (by simp only [Fval, e4]; simp [gL_sL]) (fun a b hab => ?_), st⟩
          rw [gL_sL, gI_sL, if_neg (by omega)]; exact ⟨rfl, rfl⟩
        · cases hg
theorem lda_spec {tt : Nat} {st st' : List Value} (hl : lda P tt c st s = some st') : ∃ i a r N, st = .int i :: .ref (a + 1) :: r ∧ P.al[a]? = some (tt, N) ∧ a < c ∧ inb N i ∧ st' = elv tt s (a + 1) (ix i) :: r := by
  unfold lda at hl
  split at hl
  · rename_i i a r
    split at hl
    · rename_i t2 N e1
      split at hl
      · rename_i e2
        obtain ⟨rfl, e3⟩ := e2
        split at hl
        · rename_i e4; cases hl; exact ⟨i, a, r, N, rfl, e1, e3, e4, rfl⟩
        · cases hl
      · cases hl
    · cases hl
  · cases hl
theorem va_elv (ρ : Nat → Nat) (tt : Nat) (s : St) (j i : Nat) : va ρ (elv tt s j i) = elv tt s j i := by unfold elv; split <;> rfl
theorem st_lda (X : Stand p l e R s₀ m args below meth cd T locs cells slots) (hx : p.tables.exec = Jvm.exec) (hZ : Z.Warmed39 s₀.vm) (H : HRep P Z T.heap adr c s) {tt pc : Nat} {st st' : List Value} (hl : lda P tt c st s = some st') {i : Instr}
    (hi : (tt = 0 ∧ i = .iaload) ∨ (tt = 1 ∧ i = .baload) ∨ (tt = 2 ∧ i = .laload)) (hd : decode cd.code pc = .ok (i, 1)) {L : Array Slot} :
    ∀ t, Steps p.tables e below (T.setTop (mkF m (pc + 1) L (st'.map (va (adr + ·))))) t → Steps p.tables e below (T.setTop (mkF m pc L (st.map (va (adr + ·))))) t := by
  obtain ⟨j, a, r, N, rfl, e1, e2, e3, rfl⟩ := lda_spec hl
  obtain ⟨cl, A, hN, hv⟩ := H.2.2.1 a tt N e1 e2
  have hin : ¬ (j < 0 ∨ cl.slots.size ≤ j.toNatClampNeg) := by rw [hN]; exact inb_not e3
  have hat : cl.slots[j.toNatClampNeg]? = some (elv tt s (a + 1) (ix j)) := hv (ix j) (inb_ix e3)
  intro t q
  rw [List.map_cons, va_elv] at q
  rcases hi with ⟨rfl, rfl⟩ | ⟨rfl, rfl⟩ | ⟨rfl, rfl⟩
  · exact X.iaload hx A.1 (State.isArrayOf_alike hZ.alike A.2.1) A.2.2 hin hat (g := mkF m pc L (.int j :: .ref (adr + (a + 1)) :: r.map (va (adr + ·)))) rfl rfl hd t q
  · exact X.baloadBooleans hx A.1 (State.isArrayOf_alike hZ.alike A.2.1) A.2.2 hin hat (g := mkF m pc L (.int j :: .ref (adr + (a + 1)) :: r.map (va (adr + ·)))) rfl rfl hd t q
  · exact X.laload hx A.1 (State.isArrayOf_alike hZ.alike A.2.1) A.2.2 hin hat (g := mkF m pc L (.int j :: .ref (adr + (a + 1)) :: r.map (va (adr + ·)))) rfl rfl hd t q
theorem sta_spec {tt : Nat} {st st' : List Value} (hl : sta P tt c st s = some (st', s')) : ∃ v i a N, st = v :: .int i :: .ref (a + 1) :: st' ∧ P.al[a]? = some (tt, N) ∧ a < c ∧ inb N i ∧
    ((tt = 0 ∧ ∃ z, v = .int z ∧ s' = sI s (a + 1) (ix i) z) ∨ (tt = 1 ∧ ∃ z, v = .int z ∧ s' = sI s (a + 1) (ix i) (z &&& 1)) ∨ (tt = 2 ∧ ∃ z, v = .long z ∧ s' = sL s (a + 1) (ix i) z)) := by
  unfold sta at hl
  split at hl
  · rename_i v i a r
    split at hl
    · rename_i t2 N e1
      split at hl
      · rename_i e2
        obtain ⟨rfl, e3⟩ := e2
        split at hl
        · rename_i e4
          split at hl
          · cases hl; exact ⟨_, i, a, N, rfl, e1, e3, e4, Or.inl ⟨rfl, _, rfl, rfl⟩⟩
          · cases hl; exact ⟨_, i, a, N, rfl, e1, e3, e4, Or.inr (Or.inl ⟨rfl, _, rfl, rfl⟩)⟩
          · cases hl; exact ⟨_, i, a, N, rfl, e1, e3, e4, Or.inr (Or.inr ⟨rfl, _, rfl, rfl⟩)⟩
          · cases hl
        · cases hl
      · cases hl
    · cases hl
  · cases hl
theorem st_sta (X : Stand p l e R s₀ m args below meth cd T locs cells slots) (hx : p.tables.exec = Jvm.exec) (hZ : Z.Warmed39 s₀.vm) (hna : n0 ≤ adr) (I : Inv P Z n0 adr mi c s h0 T.heap locs) {tt pc : Nat} {st st' : List Value} (hl : sta P tt c st s = some (st', s')) {i : Instr}
    (hi : (tt = 0 ∧ i = .iastore) ∨ (tt = 1 ∧ i = .bastore) ∨ (tt = 2 ∧ i = .lastore)) (hd : decode cd.code pc = .ok (i, 1)) {L : Array Slot} :
    ∃ T' locs', Stand p l e R s₀ m args below meth cd T' locs' cells slots ∧ Inv P Z n0 adr mi c s' h0 T'.heap locs' ∧ ∀ t, Steps p.tables e below (T'.setTop (mkF m (pc + 1) L (st'.map (va (adr + ·))))) t → Steps p.tables e below (T.setTop (mkF m pc L (st.map (va (adr + ·))))) t := by
  obtain ⟨H, hFr, hK, hS⟩ := I
  obtain ⟨v, j, a, N, rfl, e1, e2, e3, e4⟩ := sta_spec hl
  obtain ⟨cl, A, hN, hv⟩ := H.2.2.1 a tt N e1 e2
  have hin : ¬ (j < 0 ∨ cl.slots.size ≤ j.toNatClampNeg) := by rw [hN]; exact inb_not e3
  have hal := (List.getElem?_eq_some_iff.mp e1).1
  have fin : ∀ {T' : State} {h' : Heap} {v' : Value}, Stand p l e R s₀ m args below meth cd T' (locs ++ [⟨adr + (a + 1), j.toNatClampNeg⟩]) cells slots → T'.heap = h' → Wr T.heap h' (adr + (a + 1)) j.toNatClampNeg v' → v' = elv tt s' (a + 1) (ix j) →
      (∀ x y, (x ≠ a + 1 ∨ y ≠ ix j) → gI s' x y = gI s x y ∧ gL s' x y = gL s x y) → Inv P Z n0 adr mi c s' h0 T'.heap (locs ++ [⟨adr + (a + 1), j.toNatClampNeg⟩]) := fun {T' h' v'} X' q1 W q2 q3 => by
    rw [q1]
    exact ⟨H.putArr e1 e2 (inb_ix e3) W q2 q3, Fr.snoc X' hFr (by omega), hK.wr W (by omega) (by omega), by rw [W.size]; exact hS⟩
  rcases e4 with ⟨rfl, z, rfl, rfl⟩ | ⟨rfl, z, rfl, rfl⟩ | ⟨rfl, z, rfl, rfl⟩
  · obtain ⟨-, rfl⟩ : (0 : Nat) = 0 ∧ i = .iastore := by rcases hi with q | q | q <;> first | exact q | (have := q.1; omega)
    obtain ⟨T', h', X', q1, W, st⟩ := stI X hx hZ rfl A hin (g := mkF m pc L (.int z :: .int j :: .ref (adr + (a + 1)) :: st'.map (va (adr + ·)))) rfl rfl hd
    refine ⟨T', _, X', fin X' q1 W (by simp [elv, gI_sI, ix]) (fun x y hxy => ?_), st⟩
    rw [gI_sI, gL_sI, if_neg (fun q => hxy.elim (fun z => z q.1) (fun z => z q.2))]; exact ⟨rfl, rfl⟩
  · obtain ⟨-, rfl⟩ : (1 : Nat) = 1 ∧ i = .bastore := by rcases hi with q | q | q <;> first | exact q | (have := q.1; omega)
    obtain ⟨T', h', X', q1, W, st⟩ := stZ X hx hZ rfl A hin (g := mkF m pc L (.int z :: .int j :: .ref (adr + (a + 1)) :: st'.map (va (adr + ·)))) rfl rfl hd
    refine ⟨T', _, X', fin X' q1 W (by simp [elv, gI_sI, ix, nar]) (fun x y hxy => ?_), st⟩
    rw [gI_sI, gL_sI, if_neg (fun q => hxy.elim (fun z => z q.1) (fun z => z q.2))]; exact ⟨rfl, rfl⟩
  · obtain ⟨-, rfl⟩ : (2 : Nat) = 2 ∧ i = .lastore := by rcases hi with q | q | q <;> first | exact q | (have := q.1; omega)
    obtain ⟨T', h', X', q1, W, st⟩ := stJ X hx hZ rfl A hin (g := mkF m pc L (.long z :: .int j :: .ref (adr + (a + 1)) :: st'.map (va (adr + ·)))) rfl rfl hd
    refine ⟨T', _, X', fin X' q1 W (by simp [elv, gL_sL, ix]) (fun x y hxy => ?_), st⟩
    rw [gL_sL, gI_sL, if_neg (fun q => hxy.elim (fun z => z q.1) (fun z => z q.2))]; exact ⟨rfl, rfl⟩
theorem newF_spec {t : ArrayType} {code : Cd} {pc : Nat} {st : List Value} (h : newF P t code pc c st = true) : ∃ n x k fe tt N, st = [.int n, .ref 0] ∧ fetch code (pc + 2) = some (.putfield x, 3) ∧ asc P.fx x = some k ∧ asc P.fs k = some fe ∧ P.al[c]? = some (tt, N) ∧
    fe.2.2.1 = c + 3 ∧ t = atOf tt ∧ 0 ≤ n.toInt ∧ n.toInt = N ∧ N < 1000000 := by
  unfold newF at h
  split at h
  · rename_i n
    split at h
    · rename_i x e1
      split at h
      · rename_i k e2
        split at h
        · rename_i fe e3
          split at h
          · rename_i tt N e4
            obtain ⟨q1, q2, q3, q4, q5⟩ := of_decide_eq_true h
            exact ⟨n, x, k, fe, tt, N, rfl, e1, e2, e3, e4, q1, q2, q3, q4, q5⟩
          · cases h
        · cases h
      · cases h
    · cases h
  · cases h
theorem ty_at {tt : Nat} (h : tt ≤ 2) : newarray.typeOf (atOf tt) = tyOf tt := by
  have : tt = 0 ∨ tt = 1 ∨ tt = 2 := by omega
  rcases this with rfl | rfl | rfl <;> rfl
theorem st_new (LK : LinkC P Z a0) {me : Me} (hme : asc P.ms 0 = some me) (hnm : meth.name = me.nm) (X : Stand p l e (cRoom P 0 me) s₀ m args below meth cd T locs (co 0 c) (zo P 0 c)) (hx : p.tables.exec = Jvm.exec) (hZ : Z.Warmed39 s₀.vm) (hown : s₀.vm.findClass P.nm = some m.cls) (hna : n0 ≤ adr) (hs0 : s₀.heap.size = adr + 1) (I : Inv P Z n0 adr 0 c s h0 T.heap locs)
    (hdec : ∀ pc i n, fetch me.cd pc = some (i, n) → decode cd.code pc = .ok (i, n) ∧ (isSw i = true ∨ n = ilen i)) {t : ArrayType} {pc : Nat} {st : List Value} (h : newF P t me.cd pc c st = true) (hd : decode cd.code pc = .ok (.newarray t, 2)) {L : Array Slot} :
    ∃ T' locs', Stand p l e (cRoom P 0 me) s₀ m args below meth cd T' locs' (co 0 (c + 1)) (zo P 0 (c + 1)) ∧ Inv P Z n0 adr 0 (c + 1) s h0 T'.heap locs' ∧ ∀ t, Steps p.tables e below (T'.setTop (mkF m (pc + 5) L [])) t → Steps p.tables e below (T.setTop (mkF m pc L (st.map (va (adr + ·))))) t := by
  obtain ⟨H, hFr, hK, hS⟩ := I
  obtain ⟨nF, hnF⟩ := LK.1.1
  obtain ⟨n, x, k, fe, tt, N, rfl, e1, e2, e3, e4, e5, rfl, e6, e7, e8⟩ := newF_spec h
  obtain ⟨htt, hac⟩ := LK.2.2.2.2.2.1 _ _ _ e4
  have hal := (List.getElem?_eq_some_iff.mp e4).1
  have hS' : T.heap.size = adr + 1 + c := hS
  have hty := ty_at htt
  have hini : meth.name = "<init>" := by rw [hnm]; exact LK.2.2.2.2.2.2.2.2.2.2.2.2 me hme
  have hLy : (Cond.lays P.nm P.nm fe.1 fe.2.1).before a0 Z = true ∨ ((Cond.laysFinal P.nm P.nm fe.1 fe.2.1).before a0 Z = true ∧ P.nm = P.nm ∧ meth.name = "<init>") := by
    have q := LK.2.2.1 k fe e3
    split at q
    · exact Or.inr ⟨q, rfl, hini⟩
    · exact Or.inl q
  have hzc := zs_succ P.al e4
  have hzm := zs_le P.al (c + 1)
  obtain ⟨T1, hp1, cA, X1, q1, E, A, st1⟩ := newP X hx hZ (aty := atOf tt) (by rw [hty]; exact hac) rfl (g := mkF m pc L [.int n, .ref adr]) rfl hd rfl (by rw [Int32.lt_iff_toInt_lt]; simp only [Int32.reduceToInt]; omega) (cap := N)
    (by simp only [Int32.toNatClampNeg]; omega) (by omega) (by simp only [co, cRoom, if_true]; omega) (by simp only [zo, cRoom, if_true]; omega)
  rw [hty] at A
  have hp := LK.2.2.2.1 k fe e3
  rw [e5] at hp
  obtain ⟨d2, -⟩ := hdec _ _ _ e1
  have hsz1 : hp1.size = adr + 1 + (c + 1) := by
    have hh : T1.heap.size ≤ s₀.heap.size + (c + 1) := X1.heapSize
    have g2 : T.heap.size < Array.size hp1 := A.lt
    rw [q1, hs0] at hh
    rw [hS'] at g2
    omega
  obtain ⟨T2, hp2, X2, q2, W, st2⟩ := putF X1 hx hZ hown (host := "") (Or.inl (LK.2.1 _ _ e2 _ e3)) Via.refl q1 ((H.2.1 k fe e3).ext E) (H.1.ext E) hLy hnF (v := .ref T.heap.size) hp rfl rfl (g := mkF m (pc + 2) L [.ref T.heap.size, .ref adr]) rfl rfl d2
  refine ⟨T2, _, by simpa [co, zo, hzc] using X2, ?_, fun t q => st1 _ (st2 _ q)⟩
  rw [q2]
  refine ⟨H.newArr LK e3 e5 e4 e6 e7 hS' E A W, Fr.snoc X2 hFr hna, ?_, by rw [W.size, hsz1]; simp⟩
  exact (hK.ext E (by rw [hsz1]; omega) (by omega)).wr W (Nat.le_refl _) (by omega)
end Steps
end Jvm.LM

namespace Jvm.LM
open Sem ClassFile Op Lib Jvm.Stand Jvm.Free Jvm.LawKit Jvm.RoadKit
theorem cret_spec {me : Me} {st : List Value} {i : Instr} {v : Option Value} (h : cret me st i = some v) :
    (∃ x, i = .ireturn ∧ st = [.int x] ∧ ((me.rt = 1 ∧ v = some (.int x)) ∨ (me.rt = 2 ∧ v = some (.int (x &&& 1))))) ∨ (∃ x, i = .lreturn ∧ st = [.long x] ∧ me.rt = 3 ∧ v = some (.long x)) ∨ (i = .return_ ∧ st = [] ∧ me.rt = 0 ∧ v = none) := by
  unfold cret at h
  split at h
  · split at h
    · rename_i x
      split at h
      · rename_i e1; cases h; exact Or.inl ⟨x, rfl, rfl, Or.inl ⟨e1, rfl⟩⟩
      · split at h
        · rename_i e1; cases h; exact Or.inl ⟨x, rfl, rfl, Or.inr ⟨e1, rfl⟩⟩
        · cases h
    · cases h
  · split at h
    · rename_i x
      split at h
      · rename_i e1; cases h; exact Or.inr (Or.inl ⟨x, rfl, rfl, e1, rfl⟩)
      · cases h
    · cases h
  · split at h
    · split at h
      · rename_i e1; cases h; exact Or.inr (Or.inr ⟨rfl, rfl, e1, rfl⟩)
      · cases h
    · cases h
  · cases h
section Ret
variable {p : Program} {l : Launch} {e : Env} {R : Room} {s₀ : State} {m : MethodId} {args : Array Value} {below : List Frame} {meth : Method} {cd : Code} {T : State} {locs : List Loc} {cells slots : Nat}
theorem retI' (X : Stand p l e R s₀ m args below meth cd T locs cells slots) (hx : p.tables.exec = Jvm.exec) {pc : Nat} {Ls : Array Slot} {z : Int32} {rest : List Value} (hret : meth.sig.returnType = some .int) (hd : decode cd.code pc = .ok (.ireturn, 1)) {fs : List Frame}
    (hl : ∀ (f : JFrame) (acts : List Action), f.method = m → f.locked = none → f.entered = [] → (doReturn e (T.setTop f) acts (some (.int z))).1 = T.setFrames fs) : Steps p.tables e below (T.setTop (mkF m pc Ls (.int z :: rest))) (T.setFrames fs) :=
  retOut X hx (t := .int) (i := .ireturn) hret rfl (Or.inl ⟨rfl, Or.inl rfl, z, rfl⟩) hd hl
theorem st_ret (X : Stand p l e R s₀ m args below meth cd T locs cells slots) (hx : p.tables.exec = Jvm.exec) {me : Me} (hret : meth.sig.returnType = retOf me.rt) (hlk : meth.locks = false) {ρ : Nat → Nat} {st : List Value} {i : Instr} {v : Option Value} (h : cret me st i = some v) {pc n : Nat} (hd : decode cd.code pc = .ok (i, n)) (hn : isSw i = true ∨ n = ilen i)
    {Q : Option Value → Heap → List Loc → Prop} (hQ : Q v T.heap locs) (hc : cells ≤ R.cells) (hs : slots ≤ R.slots) {L : Array Slot} : Don p e below s₀ R Q (T.setTop (mkF m pc L (st.map (va ρ)))) := by
  rcases cret_spec h with ⟨x, rfl, rfl, h1⟩ | ⟨x, rfl, rfl, h1, rfl⟩ | ⟨rfl, rfl, h1, rfl⟩
  · obtain rfl := hn.resolve_left Bool.false_ne_true
    rcases h1 with ⟨h1, rfl⟩ | ⟨h1, rfl⟩
    · rw [h1] at hret
      obtain ⟨fs, hr, hrun, hended, hW, hsame⟩ := X.leave (v := some (.int x)) (fun q => by rw [hret] at q; cases q) hlk
      exact ⟨_, _, retI' X hx hret hd hr, hrun, hended, _, _, rfl, hQ, ⟨_, rfl⟩, hW, hsame.mono hc hs⟩
    · rw [h1] at hret
      obtain ⟨fs, hr, hrun, hended, hW, hsame⟩ := X.leave (v := some (.int (x &&& 1))) (fun q => by rw [hret] at q; cases q) hlk
      exact ⟨_, _, retN X hx (t := .boolean) hret (Or.inl rfl) hd hr, hrun, hended, _, _, rfl, hQ, ⟨_, rfl⟩, hW, hsame.mono hc hs⟩
  · obtain rfl := hn.resolve_left Bool.false_ne_true
    rw [h1] at hret
    obtain ⟨fs, hr, hrun, hended, hW, hsame⟩ := X.leave (v := some (.long x)) (fun q => by rw [hret] at q; cases q) hlk
    exact ⟨_, _, retOut X hx (t := .long) (i := .lreturn) hret rfl (Or.inr (Or.inl ⟨rfl, rfl, x, rfl⟩)) hd hr, hrun, hended, _, _, rfl, hQ, ⟨_, rfl⟩, hW, hsame.mono hc hs⟩
  · obtain rfl := hn.resolve_left Bool.false_ne_true
    rw [h1] at hret
    obtain ⟨fs, hr, hrun, hended, hW, hsame⟩ := X.leave (v := none) (fun _ => rfl) hlk
    exact ⟨_, _, X.returnOut hx hret hd hr, hrun, hended, _, _, rfl, hQ, ⟨_, rfl⟩, hW, hsame.mono hc hs⟩
end Ret
theorem cret_va {me : Me} {st : List Value} {i : Instr} {v : Option Value} (h : cret me st i = some v) (ρ : Nat → Nat) : v.toList.map (va ρ) = v.toList := by
  rcases cret_spec h with ⟨x, rfl, rfl, ⟨-, rfl⟩ | ⟨-, rfl⟩⟩ | ⟨x, rfl, rfl, -, rfl⟩ | ⟨rfl, rfl, -, rfl⟩ <;> rfl
theorem nd_rev {ρ : Nat → Nat} {as : List Value} (h : nd as = true) : ∀ v ∈ (Value.ref 0 :: as.reverse), ∀ x, v ≠ .double x := fun v hv x e => by
  rcases List.mem_cons.mp hv with q | q
  · subst q; cases e
  · exact nd_spec h v (List.mem_reverse.mp q) x e
theorem pfld_va {P : Cl} {x : Nat} {ini : Bool} {w : Value} {s s1 : St} (hg : pfld P x ini w s = some s1) (ρ : Nat → Nat) : va ρ w = w := by
  cases w <;> first | rfl | skip
  exfalso
  unfold pfld at hg
  split at hg
  · cases hg
  · split at hg
    · cases hg
    · split at hg
      · cases hg
      · split at hg
        · rename_i q; cases q
        · rename_i q; cases q
        · rename_i q; cases q
        · cases hg
theorem cwalk {P : Cl} {Z : State} {a0 : Array Value} (LK : LinkC P Z a0) {n0 adr : Nat} (hna : n0 ≤ adr) : ∀ f mi me, asc P.ms mi = some me → CW P Z n0 adr f mi me := by
  intro f
  induction f with
  | zero =>
    intro mi me hme p l e s₀ m args below meth cd T locs h0 c pc ls st s v s' L hx hZ hown hnm hret hml hlk hs0 hdec hr
    cases hr
  | succ f ih =>
    intro mi me hme p l e s₀ m args below meth cd T locs h0 c pc ls st s v s' L hx hZ hown hnm hret hml hlk hs0 hdec hr X I hL hlen
    simp only [cexec] at hr
    split at hr
    · cases hr
    · rename_i i n hf
      obtain ⟨hd, hn⟩ := hdec pc i n hf
      have ihk := ih mi me hme
      have hsize : L.size = cd.maxLocals := by rw [hL.1, hlen, hml]
      obtain ⟨nF, hnF⟩ := LK.1.1
      unfold cstep at hr
      split at hr
      -- getfield
      · obtain rfl := hn.resolve_left Bool.false_ne_true
        split at hr
        · rename_i r
          split at hr
          · rename_i w hg
            obtain ⟨T', X', q1, st⟩ := st_get LK X hx hZ hown I.1 hg hd (L := L) (r := r.map (va (adr + ·)))
            exact Don.step st (ihk p l e s₀ m args below meth cd T' locs h0 c _ ls (w :: r) s v s' L hx hZ hown hnm hret hml hlk hs0 hdec hr X' (by rw [q1]; exact I) hL hlen)
          · cases hr
        · cases hr
      -- putfield
      · obtain rfl := hn.resolve_left Bool.false_ne_true
        split at hr
        · rename_i w r
          split at hr
          · rename_i s1 hg
            have hini : (mi == 0) = true → meth.name = "<init>" := fun q => by
              have q : mi = 0 := by simpa using q
              subst q; rw [hnm]; exact LK.2.2.2.2.2.2.2.2.2.2.2.2 me hme
            have hw : va (adr + ·) w = w := pfld_va hg _
            obtain ⟨T', locs', X', I', st⟩ := st_put LK X hx hZ hown hna I hini hg hd (L := L) (r := r.map (va (adr + ·)))
            refine Don.step (fun t q => ?_) (ihk p l e s₀ m args below meth cd T' locs' h0 c _ ls r s1 v s' L hx hZ hown hnm hret hml hlk hs0 hdec hr X' I' hL hlen)
            have := st t q
            rw [List.map_cons, hw]; exact this
          · cases hr
        · cases hr
      -- loads of arrays
      · obtain rfl := hn.resolve_left Bool.false_ne_true
        split at hr
        · rename_i st' hg
          exact Don.step (st_lda X hx hZ I.1 hg (Or.inl ⟨rfl, rfl⟩) hd) (ihk p l e s₀ m args below meth cd T locs h0 c _ ls st' s v s' L hx hZ hown hnm hret hml hlk hs0 hdec hr X I hL hlen)
        · cases hr
      · obtain rfl := hn.resolve_left Bool.false_ne_true
        split at hr
        · rename_i st' hg
          exact Don.step (st_lda X hx hZ I.1 hg (Or.inr (Or.inl ⟨rfl, rfl⟩)) hd) (ihk p l e s₀ m args below meth cd T locs h0 c _ ls st' s v s' L hx hZ hown hnm hret hml hlk hs0 hdec hr X I hL hlen)
        · cases hr
      · obtain rfl := hn.resolve_left Bool.false_ne_true
        split at hr
        · rename_i st' hg
          exact Don.step (st_lda X hx hZ I.1 hg (Or.inr (Or.inr ⟨rfl, rfl⟩)) hd) (ihk p l e s₀ m args below meth cd T locs h0 c _ ls st' s v s' L hx hZ hown hnm hret hml hlk hs0 hdec hr X I hL hlen)
        · cases hr
      -- stores into arrays
      · obtain rfl := hn.resolve_left Bool.false_ne_true
        split at hr
        · rename_i st' s1 hg
          obtain ⟨T', locs', X', I', st⟩ := st_sta X hx hZ hna I hg (Or.inl ⟨rfl, rfl⟩) hd (L := L)
          exact Don.step st (ihk p l e s₀ m args below meth cd T' locs' h0 c _ ls st' s1 v s' L hx hZ hown hnm hret hml hlk hs0 hdec hr X' I' hL hlen)
        · cases hr
      · obtain rfl := hn.resolve_left Bool.false_ne_true
        split at hr
        · rename_i st' s1 hg
          obtain ⟨T', locs', X', I', st⟩ := st_sta X hx hZ hna I hg (Or.inr (Or.inl ⟨rfl, rfl⟩)) hd (L := L)
          exact Don.step st (ihk p l e s₀ m args below meth cd T' locs' h0 c _ ls st' s1 v s' L hx hZ hown hnm hret hml hlk hs0 hdec hr X' I' hL hlen)
        · cases hr
      · obtain rfl := hn.resolve_left Bool.false_ne_true
        split at hr
        · rename_i st' s1 hg
          obtain ⟨T', locs', X', I', st⟩ := st_sta X hx hZ hna I hg (Or.inr (Or.inr ⟨rfl, rfl⟩)) hd (L := L)
          exact Don.step st (ihk p l e s₀ m args below meth cd T' locs' h0 c _ ls st' s1 v s' L hx hZ hown hnm hret hml hlk hs0 hdec hr X' I' hL hlen)
        · cases hr
      -- newarray and putfield
      · obtain rfl := hn.resolve_left Bool.false_ne_true
        split at hr
        · rename_i hg
          obtain ⟨rfl, hg⟩ := hg
          obtain ⟨T', locs', X', I', st⟩ := st_new LK hme hnm X hx hZ hown hna (hs0 rfl) I hdec hg hd (L := L)
          exact Don.step st (ihk p l e s₀ m args below meth cd T' locs' h0 (c + 1) _ ls [] s v s' L hx hZ hown hnm hret hml hlk hs0 hdec hr X' I' hL hlen)
        · cases hr
      -- constants
      · obtain rfl := hn.resolve_left Bool.false_ne_true
        split at hr
        · rename_i z hg
          exact Don.step (fun t q => X.ldcI hx hown (mv hZ (LK.2.2.2.2.2.2.1 _ _ hg)) (g := mkF m pc L (st.map (va (adr + ·)))) rfl hd q) (ihk p l e s₀ m args below meth cd T locs h0 c _ ls (.int z :: st) s v s' L hx hZ hown hnm hret hml hlk hs0 hdec hr X I hL hlen)
        · cases hr
      · obtain rfl := hn.resolve_left Bool.false_ne_true
        split at hr
        · rename_i z hg
          exact Don.step (fun t q => X.ldc2J hx hown (mv hZ (LK.2.2.2.2.2.2.1 _ _ hg)) (g := mkF m pc L (st.map (va (adr + ·)))) rfl hd q) (ihk p l e s₀ m args below meth cd T locs h0 c _ ls (.long z :: st) s v s' L hx hZ hown hnm hret hml hlk hs0 hdec hr X I hL hlen)
        · cases hr
      -- Object's constructor
      · obtain rfl := hn.resolve_left Bool.false_ne_true
        split at hr
        · rename_i r
          split at hr
          · rename_i hg
            obtain ⟨rfl, hg1, hg2⟩ := hg
            obtain ⟨w1, w2, w3⟩ := LK.2.2.2.2.2.2.2.1
            obtain ⟨T', X', q1, st⟩ := initO X hx hZ hown w1 w2 w3 rfl (g := mkF m pc L (.ref adr :: r.map (va (adr + ·)))) rfl hsize rfl hd hg1 (W := cats r) (by show 2 * 0 + _ ≤ _; rw [cats_va]; omega) hg2
            exact Don.step st (ihk p l e s₀ m args below meth cd T' locs h0 c _ ls r s v s' L hx hZ hown hnm hret hml hlk hs0 hdec hr X' (by rw [q1]; exact I) hL hlen)
          · cases hr
        · cases hr
      -- a call
      · obtain rfl := hn.resolve_left Bool.false_ne_true
        split at hr
        · cases hr
        · rename_i m' hm'
          split at hr
          · cases hr
          · rename_i me' hme'
            split at hr
            · rename_i r hst
              split at hr
              · rename_i hg
                obtain ⟨hg0, hg1, hg2, hg3⟩ := hg
                dsimp only at hr
                rw [hme'] at hr
                dsimp only at hr
                obtain ⟨bytes, ps, hcode, hdec', hpar, hpl⟩ := LK.2.2.2.2.2.2.2.2.1 m' me' hme'
                obtain ⟨w1, w2, w3⟩ := LK.2.2.2.2.2.2.2.2.2.1 _ _ hm' _ hme'
                by_cases hla : (layA (Value.ref 0 :: (st.take me'.na).reverse)).length ≤ me'.ml
                · rw [if_pos hla] at hr
                  cases hcl : cexec P f m' me' c 0 (lay (.ref 0 :: (st.take me'.na).reverse) me'.ml) [] s with
                  | none => rw [hcl] at hr; cases hr
                  | some vs =>
                    obtain ⟨w, s1⟩ := vs
                    rw [hcl] at hr
                    have hr' : cexec P f mi me c (pc + 3) ls (w.toList ++ r) s1 = some (v, s') := by cases w <;> exact hr
                    have hM := met_of_CW LK hme' (ih m' me' hme') l hdec' (as := .ref 0 :: (st.take me'.na).reverse) (nd_rev (ρ := id) hg3) hla hcl (fun q => absurd q hg0) I.1 (fun q => absurd q hg0)
                    have hB := backOf (R := cRoom P mi me) (p := p) (e := e) (below := below) (s := s₀) (args := args) (len := 3) (W := cats r) hM hZ hcode LK.1.2 hg1 hg2
                    have hdl : me'.na < st.length := by
                      have := congrArg List.length hst
                      simp at this; omega
                    have hsp : st = st.take me'.na ++ .ref 0 :: r := by rw [← hst, List.take_append_drop]
                    have hcell := I.1.1.cell
                    obtain ⟨cel, hc1, hc2⟩ := hcell
                    have key : ∃ (v' : Option Value) (U : State) (Lc : List Loc), Stand p l e (cRoom P mi me) s₀ m args below meth cd U (locs ++ Lc) (co mi c) (zo P mi c) ∧ QC P Z n0 adr m' c w s1 T.heap v' U.heap Lc ∧
                        Steps p.tables e below (T.setTop (mkF m pc L (st.map (va (adr + ·))))) (U.setTop (mkF m (pc + 3) L (v'.toList ++ r.map (va (adr + ·))))) := by
                      have hsm : st.map (va (adr + ·)) = ((st.take me'.na).reverse.map (va (adr + ·))).reverse ++ .ref adr :: r.map (va (adr + ·)) := by
                        conv => lhs; rw [hsp]
                        simp [va]
                      have hll : ∀ sig, parseMethodDescriptor (yOf P me').desc = some sig → ((st.take me'.na).reverse.map (va (adr + ·))).length = sig.parameters.length := lenOf hpar (by simp [hpl]; omega)
                      have hpre : ∀ vm₁, s₀.WarmedH vm₁ → ((Value.ref adr :: (st.take me'.na).reverse.map (va (adr + ·))).toArray = ((Value.ref 0 :: (st.take me'.na).reverse).map (va (adr + ·))).toArray ∧ (T.setVm vm₁).heap = T.heap ∧ co mi c + (cRoom P m' me').cells ≤ (cRoom P mi me).cells ∧ zo P mi c + (cRoom P m' me').slots ≤ (cRoom P mi me).slots) := fun vm₁ _ => by
                        refine ⟨by simp [va], rfl, ?_, ?_⟩
                        · simp only [co, cRoom, if_neg hg0]
                          have := I.1.2.2.2.2
                          split <;> omega
                        · simp only [zo, cRoom, if_neg hg0]
                          have := zs_le P.al c
                          split <;> omega
                      have hz1 : (cRoom P m' me').cells = 0 := by simp [cRoom, hg0]
                      have hz2 : (cRoom P m' me').slots = 0 := by simp [cRoom, hg0]
                      rcases w3 with w3 | ⟨w3, w4⟩
                      · obtain ⟨v', vm₁, ⟨U, lo, ce, sl⟩, -, X', ⟨Lc, hQ, l1, l2, l3⟩, stp⟩ := privCall X hx (y := yOf P me') hown (mv hZ w1) (mv hZ w2) (nF := nF) (mv hZ hnF) (Cond.privateMethod_at (mvP hZ w3 (args := args))) (mv hZ hcode) LK.2.2.2.2.2.2.2.2.2.2.2.1 hB (g := mkF m pc L (st.map (va (adr + ·)))) rfl hsize hc1 hc2 hll hsm (by show 2 * 0 + _ ≤ _; rw [cats_va]; omega) hd hpre
                        dsimp only [Pt.U, Pt.locs, Pt.cells, Pt.slots] at X' hQ l1 l2 l3 stp
                        subst l1 l2 l3
                        rw [hz1, hz2] at X'
                        exact ⟨v', U, Lc, X', hQ, stp⟩
                      · obtain ⟨cq, kq, qa, qb, qc⟩ := isOf hZ rfl I.1.1
                        obtain ⟨v', vm₁, ⟨U, lo, ce, sl⟩, -, X', ⟨Lc, hQ, l1, l2, l3⟩, stp⟩ := X.virtualBack hx (y := yOf P me') (z := yOf P me') hown (mv hZ w1) (mv hZ w3) (notFace_of_selects (args := #[]) (mv hZ w4)) (mv hZ w4) (mv hZ w2) LK.2.2.2.2.2.2.2.2.2.2.2.1 hB qa qc (g := mkF m pc L (st.map (va (adr + ·)))) rfl hsize (Steps.refl _) hll hsm (by show 2 * 0 + _ ≤ _; rw [cats_va]; omega) hd hpre
                        dsimp only [Pt.U, Pt.locs, Pt.cells, Pt.slots] at X' hQ l1 l2 l3 stp
                        subst l1 l2 l3
                        rw [hz1, hz2] at X'
                        exact ⟨v', U, Lc, X', hQ, stp⟩
                    obtain ⟨v', U, Lc, X', ⟨⟨rfl, hva⟩, hF', hH', hK', hS'⟩, stp⟩ := key
                    rw [if_neg hg0] at hH' hS'
                    refine Don.step (fun t q => stp.trans ?_) (ihk p l e s₀ m args below meth cd U (locs ++ Lc) h0 c _ ls (v'.toList ++ r) s1 v s' L hx hZ hown hnm hret hml hlk hs0 hdec hr' X' ⟨hH', I.2.1.app hF', I.2.2.1.trans hK', by rw [hS']; exact I.2.2.2⟩ hL hlen)
                    rw [List.map_append, hva] at q; exact q
                · rw [if_neg hla] at hr; cases hr
              · cases hr
            · cases hr
      -- the rest
      · split at hr
        · split at hr
          · cases hr
          · rename_i h1 hcf
            split at hr
            · rename_i w hw
              cases hr
              have hcf' : mi = 0 → c = P.al.length := fun q => Classical.byContradiction fun z => hcf ⟨q, z⟩
              have hA : HRep P Z T.heap adr (if mi = 0 then P.al.length else c) s := by
                by_cases q : mi = 0
                · rw [if_pos q, ← hcf' q]; exact I.1
                · rw [if_neg q]; exact I.1
              have hB : Array.size T.heap = if mi = 0 then adr + 1 + P.al.length else Array.size h0 := by
                rw [I.2.2.2]
                by_cases q : mi = 0
                · rw [if_pos q, if_pos q, ← hcf' q]
                · rw [if_neg q, if_neg q]
              have hC : co mi c ≤ (cRoom P mi me).cells := by
                simp only [co, cRoom]
                by_cases q : mi = 0
                · rw [if_pos q, if_pos q, ← hcf' q]; exact Nat.le_refl _
                · rw [if_neg q, if_neg q]; exact Nat.le_refl _
              have hD : zo P mi c ≤ (cRoom P mi me).slots := by
                simp only [zo, cRoom]
                by_cases q : mi = 0
                · rw [if_pos q, if_pos q]; exact zs_le _ _
                · rw [if_neg q, if_neg q]; exact Nat.le_refl _
              exact st_ret X hx hret hlk hw hd hn ⟨⟨rfl, cret_va hw⟩, I.2.1, hA, I.2.2.1, hB⟩ hC hD
            · cases hr
        · split at hr
          · rename_i pc' ls' st' hp
            obtain ⟨L', hL', hLs, st⟩ := pstep_sound X hx hp hd hn hL
            have hlen' : ls'.length = me.ml := by rw [← hL'.1, hLs, hL.1]; exact hlen
            exact Don.step st (ihk p l e s₀ m args below meth cd T locs h0 c _ ls' st' s v s' L' hx hZ hown hnm hret hml hlk hs0 hdec hr X I hL' hlen')
          · cases hr
end Jvm.LM

namespace Jvm.LM
open Sem ClassFile Op Lib Jvm.Stand Jvm.Free Jvm.LawKit Jvm.RoadKit
/-! the law's machine: several objects of the class, and one array of ints that it only reads -/
/-- class name, pool to own static method, pool to the class's method, pool index of the constructor, of the class, number of its fields, constants, methods, room: cells, slots -/
abbrev Lw := String × List (Nat × Nat) × List (Nat × Nat) × Nat × Nat × Nat × List (Nat × Value) × List (Nat × Me) × Nat × Nat
def Lw.nm (Q : Lw) : String := Q.1
def Lw.sx (Q : Lw) : List (Nat × Nat) := Q.2.1
def Lw.vx (Q : Lw) : List (Nat × Nat) := Q.2.2.1
def Lw.ci (Q : Lw) : Nat := Q.2.2.2.1
def Lw.cx (Q : Lw) : Nat := Q.2.2.2.2.1
def Lw.nf (Q : Lw) : Nat := Q.2.2.2.2.2.1
def Lw.kx (Q : Lw) : List (Nat × Value) := Q.2.2.2.2.2.2.1
def Lw.ms (Q : Lw) : List (Nat × Me) := Q.2.2.2.2.2.2.2.1
def Lw.rc (Q : Lw) : Nat := Q.2.2.2.2.2.2.2.2.1
def Lw.rs (Q : Lw) : Nat := Q.2.2.2.2.2.2.2.2.2
/-- the objects, how many are made, whether one more is being made -/
abbrev Wd := (Nat → St) × Nat × Bool
abbrev Sc := Option (Nat × (Nat → Int32))
abbrev Rw := Option (Option Value × Wd)
def nr : List Value → Bool
  | [] => true
  | .int _ :: r => nr r
  | .long _ :: r => nr r
  | _ => false
theorem nr_map {l : List Value} (h : nr l = true) (ρ : Nat → Nat) : l.map (va ρ) = l := by
  induction l with
  | nil => rfl
  | cons v r ih => cases v <;> first | (simp only [nr] at h; simp [va, ih h]; done) | (simp [nr] at h)
theorem nr_nd {l : List Value} (h : nr l = true) : nd l = true := by
  induction l with
  | nil => rfl
  | cons v r ih => cases v <;> first | (simp only [nr] at h; simp [nd, ih h]; done) | (simp [nr] at h)
def uo (w : Nat → St) (o : Nat) (s : St) : Nat → St := fun i => if i = o then s else w i
def lstep {α : Type} (P : Cl) (Q : Lw) (sc : Sc) (mi : Nat) (me : Me) (rt : Option Value → Wd → Option α) (cc : Nat → Nat → List Value → St → Rs) (cl : Nat → List Value → Wd → Rw) (k : Nat → Lv → List Value → Wd → Option α) (i : Instr) (pc : Nat) (ls : Lv) (st : List Value) (w : Wd) : Option α :=
  match i with
  | .iaload => match sc, st with
    | some (n, g), .int j :: .ref 0 :: r => if inb n j then k (pc + 1) ls (.int (g (ix j)) :: r) w else none
    | _, _ => none
  | .arraylength => match sc, st with
    | some (n, _), .ref 0 :: r => k (pc + 1) ls (.int (Int32.ofNat n) :: r) w
    | _, _ => none
  | .ldc x => match asc Q.kx x with | some (.int z) => k (pc + 2) ls (.int z :: st) w | _ => none
  | .ldc2_w x => match asc Q.kx x with | some (.long z) => k (pc + 3) ls (.long z :: st) w | _ => none
  | .new x => if mi = 0 ∧ x = Q.cx ∧ w.2.2 = false ∧ (w.2.1 + 1) * (P.al.length + 1) ≤ Q.rc ∧ (w.2.1 + 1) * (Q.nf + zs P.al P.al.length) ≤ Q.rs then
      k (pc + 3) ls (.ref (w.2.1 + 1) :: st) (uo w.1 w.2.1 s0, w.2.1, true) else none
  | .invokespecial x => match asc P.ms 0 with
    | none => none
    | some me' => match st.drop me'.na with
      | .ref (o + 1) :: r => if x = Q.ci ∧ mi = 0 ∧ o = w.2.1 ∧ w.2.2 = true ∧ me'.rf + 1 ≤ me.rf ∧ cats r + (me'.ml + 11) + me'.rl ≤ me.rl ∧ nr (st.take me'.na) = true ∧ (w.2.1 + 1) * (P.al.length + 1) ≤ Q.rc ∧ (w.2.1 + 1) * (Q.nf + zs P.al P.al.length) ≤ Q.rs then
          (match cc 0 0 (.ref 0 :: (st.take me'.na).reverse) (w.1 o) with
           | some (none, s') => k (pc + 3) ls r (uo w.1 o s', w.2.1 + 1, false)
           | _ => none) else none
      | _ => none
  | .invokevirtual x => match asc Q.vx x with
    | none => none
    | some m' => match asc P.ms m' with
      | none => none
      | some me' => match st.drop me'.na with
        | .ref (o + 1) :: r => if m' ≠ 0 ∧ o < w.2.1 ∧ me'.rf + 1 ≤ me.rf ∧ cats r + (me'.ml + 11) + me'.rl ≤ me.rl ∧ nr (st.take me'.na) = true then
            (match cc m' P.al.length (.ref 0 :: (st.take me'.na).reverse) (w.1 o) with
             | some (none, s') => k (pc + 3) ls r (uo w.1 o s', w.2.1, w.2.2)
             | some (some v, s') => k (pc + 3) ls (v :: r) (uo w.1 o s', w.2.1, w.2.2)
             | none => none) else none
        | _ => none
  | .invokestatic x => match asc Q.sx x with
    | none => none
    | some m' => match asc Q.ms m' with
      | none => none
      | some me' => if m' ≠ 0 ∧ me'.na ≤ st.length ∧ me'.rf + 1 ≤ me.rf ∧ cats (st.drop me'.na) + (me'.ml + 11) + me'.rl ≤ me.rl ∧ nd (st.take me'.na) = true then
          (match cl m' (st.take me'.na).reverse w with
           | some (none, w') => k (pc + 3) ls (st.drop me'.na) w'
           | some (some v, w') => k (pc + 3) ls (v :: st.drop me'.na) w'
           | none => none) else none
  | i => if isRet i = true then (match cret me st i with | some v => rt v w | none => none)
    else match pstep i pc ls st with | some (pc', ls', st') => k pc' ls' st' w | none => none
def lexec (P : Cl) (Q : Lw) (sc : Sc) : Nat → Nat → Me → Nat → Lv → List Value → Wd → Rw
  | 0, _, _, _, _, _, _ => none
  | f + 1, mi, me, pc, ls, st, w => match fetch me.cd pc with
    | none => none
    | some (i, _) => lstep P Q sc mi me (fun v w => some (v, w)) (ccall P f) (fun m' as w => match asc Q.ms m' with | some me' => (if (layA as).length ≤ me'.ml then lexec P Q sc f m' me' 0 (lay as me'.ml) [] w else none) | none => none) (lexec P Q sc f mi me) i pc ls st w
theorem lexec_cnt {P : Cl} {Q : Lw} {sc : Sc} : ∀ f mi me pc ls st w v w', mi ≠ 0 → lexec P Q sc f mi me pc ls st w = some (v, w') → w'.2 = w.2 := by
  intro f
  induction f with
  | zero => intro mi me pc ls st w v w' _ h; cases h
  | succ f ih =>
    intro mi me pc ls st w v w' h0 h
    simp only [lexec] at h
    split at h
    · cases h
    · unfold lstep at h
      split at h
      · split at h
        · split at h
          · exact ih _ _ _ _ _ _ _ _ h0 h
          · cases h
        · cases h
      · split at h
        · exact ih _ _ _ _ _ _ _ _ h0 h
        · cases h
      · split at h
        · exact ih _ _ _ _ _ _ _ _ h0 h
        · cases h
      · split at h
        · exact ih _ _ _ _ _ _ _ _ h0 h
        · cases h
      · split at h
        · rename_i q; exact absurd q.1 h0
        · cases h
      · split at h
        · cases h
        · split at h
          · split at h
            · rename_i q; exact absurd q.2.1 h0
            · cases h
          · cases h
      · split at h
        · cases h
        · split at h
          · cases h
          · split at h
            · split at h
              · split at h
                · exact (ih _ _ _ _ _ _ _ _ h0 h).trans rfl
                · exact (ih _ _ _ _ _ _ _ _ h0 h).trans rfl
                · cases h
              · cases h
            · cases h
      · split at h
        · cases h
        · split at h
          · cases h
          · rename_i me' hme'
            split at h
            · rename_i hg
              dsimp only at h
              rw [hme'] at h
              dsimp only at h
              split at h
              · rename_i w2 hc
                split at hc
                · exact (ih _ _ _ _ _ _ _ _ h0 h).trans (ih _ _ _ _ _ _ _ _ hg.1 hc)
                · cases hc
              · rename_i u w2 hc
                split at hc
                · exact (ih _ _ _ _ _ _ _ _ h0 h).trans (ih _ _ _ _ _ _ _ _ hg.1 hc)
                · cases hc
              · cases h
            · cases h
      · split at h
        · split at h
          · cases h; rfl
          · cases h
        · split at h
          · exact ih _ _ _ _ _ _ _ _ h0 h
          · cases h
def lcall (P : Cl) (Q : Lw) (sc : Sc) (f m' : Nat) (as : List Value) (w : Wd) : Rw := match asc Q.ms m' with | some me' => (if (layA as).length ≤ me'.ml then lexec P Q sc f m' me' 0 (lay as me'.ml) [] w else none) | none => none
def zOf (Q : Lw) (me : Me) : MethodName := ⟨Q.nm, me.nm, me.ds⟩
def LinkL (P : Cl) (Q : Lw) (Z : State) (a0 : Array Value) : Prop :=
  ((Cond.classLink Q.nm Q.cx P.nm).before a0 Z = true ∧ (Cond.instantiable P.nm Q.nf).before a0 Z = true) ∧
  (∀ me, asc P.ms 0 = some me → (Cond.methodLink Q.nm Q.ci (yOf P me)).before a0 Z = true ∧ (Cond.instanceMethod (yOf P me)).before a0 Z = true ∧ me.rt = 0) ∧
  (∀ x m', asc Q.vx x = some m' → ∀ me, asc P.ms m' = some me → (Cond.methodLink Q.nm x (yOf P me)).before a0 Z = true ∧ (Cond.declares (yOf P me)).before a0 Z = true ∧ (Cond.instanceMethod (yOf P me)).before a0 Z = true ∧ (Cond.selects P.nm (yOf P me) (yOf P me)).before a0 Z = true) ∧
  (∀ x m', asc Q.sx x = some m' → ∀ me, asc Q.ms m' = some me → (Cond.methodLink Q.nm x (zOf Q me)).before a0 Z = true ∧ (Cond.static (zOf Q me)).before a0 Z = true ∧ (Cond.initialized Q.nm).before a0 Z = true) ∧
  (∀ x v, asc Q.kx x = some v → match v with
    | .int z => (Cond.constant Q.nm x z).before a0 Z = true
    | .long z => (Cond.constantLong Q.nm x z).before a0 Z = true
    | _ => True) ∧
  (∀ mi me, asc Q.ms mi = some me → mi ≠ 0 → ∃ (bytes : ByteArray) (ps : List FieldType), (Cond.code (zOf Q me) bytes me.ml (retOf me.rt)).before a0 Z = true ∧
    (∀ pc i n, fetch me.cd pc = some (i, n) → decode bytes pc = .ok (i, n) ∧ (isSw i = true ∨ n = ilen i)) ∧ parseMethodDescriptor me.ds = some ⟨ps, retOf me.rt⟩ ∧ ps.length = me.na) ∧
  plainName Q.nm = true ∧ (Q.nm ≠ "java/lang/invoke/MethodHandle" ∧ Q.nm ≠ "java/lang/invoke/VarHandle")
def rho (a n0 K : Nat) : Nat → Nat
  | 0 => a
  | o + 1 => n0 + o * K
def SRep (Z : State) (h : Heap) (a n0 : Nat) (sc : Sc) : Prop :=
  match sc with
  | none => True
  | some (n, g) => a < n0 ∧ ∃ cl : Cell, Arr Z h a cl .int ∧ cl.slots.size = n ∧ ∀ i, i < n → cl.slots[i]? = some (.int (g i))
def LRep (P : Cl) (Z : State) (h : Heap) (a n0 : Nat) (sc : Sc) (w : Wd) : Prop :=
  SRep Z h a n0 sc ∧ (∀ o, o < w.2.1 → HRep P Z h (n0 + o * (P.al.length + 1)) P.al.length (w.1 o)) ∧
  (w.2.2 = true → HRep P Z h (n0 + w.2.1 * (P.al.length + 1)) 0 (w.1 w.2.1)) ∧ h.size = n0 + w.2.1 * (P.al.length + 1) + (if w.2.2 = true then 1 else 0)
def lRoom (Q : Lw) (mi : Nat) (me : Me) : Room := { frames := me.rf, cells := if mi = 0 then Q.rc else 0, slots := if mi = 0 then Q.rs else 0, locals := me.rl }
def QL (P : Cl) (Z : State) (a n0 : Nat) (sc : Sc) (v : Option Value) (w' : Wd) (u : Option Value) (h : Heap) (L : List Loc) : Prop :=
  (u = v ∧ ∀ ρ, u.toList.map (va ρ) = u.toList) ∧ Fr n0 L ∧ LRep P Z h a n0 sc w'
def lco (P : Cl) (mi : Nat) (w : Wd) : Nat := if mi = 0 then w.2.1 * (P.al.length + 1) + (if w.2.2 = true then 1 else 0) else 0
def lzo (P : Cl) (Q : Lw) (mi : Nat) (w : Wd) : Nat := if mi = 0 then w.2.1 * (Q.nf + zs P.al P.al.length) + (if w.2.2 = true then Q.nf else 0) else 0
def LW (P : Cl) (Q : Lw) (sc : Sc) (Z : State) (a n0 f mi : Nat) (me : Me) : Prop :=
  ∀ (p : Program) (l : Launch) (e : Env) (s₀ : State) (m : MethodId) (args : Array Value) (below : List Frame) (meth : Method) (cd : Code) (T : State) (locs : List Loc) (pc : Nat) (ls : Lv) (st : List Value) (w : Wd) (v : Option Value) (w' : Wd) (L : Array Slot),
    p.tables.exec = Jvm.exec → Z.Warmed39 s₀.vm → s₀.vm.findClass Q.nm = some m.cls → meth.sig.returnType = retOf me.rt → cd.maxLocals = me.ml → meth.locks = false → (mi = 0 → s₀.heap.size = n0) →
    (∀ pc i n, fetch me.cd pc = some (i, n) → decode cd.code pc = .ok (i, n) ∧ (isSw i = true ∨ n = ilen i)) →
    lexec P Q sc f mi me pc ls st w = some (v, w') →
    Stand p l e (lRoom Q mi me) s₀ m args below meth cd T locs (lco P mi w) (lzo P Q mi w) → w.2.1 * (P.al.length + 1) + (if w.2.2 = true then 1 else 0) ≤ (lRoom Q 0 me).cells → w.2.1 * (Q.nf + zs P.al P.al.length) + (if w.2.2 = true then Q.nf else 0) ≤ (lRoom Q 0 me).slots →
    LRep P Z T.heap a n0 sc w → Fr n0 locs → LR (rho a n0 (P.al.length + 1)) ls L → ls.length = me.ml →
    Don p e below s₀ (lRoom Q mi me) (QL P Z a n0 sc v w') (T.setTop (mkF m pc L (st.map (va (rho a n0 (P.al.length + 1))))))
theorem met_of_LW {P : Cl} {Q : Lw} {sc : Sc} {Z : State} {a0 : Array Value} (LL : LinkL P Q Z a0) {a n0 f mi : Nat} {me : Me} (hW : LW P Q sc Z a n0 f mi me) (hmi : mi ≠ 0) (l : Launch) {bytes : ByteArray}
    (hdec : ∀ pc i n, fetch me.cd pc = some (i, n) → decode bytes pc = .ok (i, n) ∧ (isSw i = true ∨ n = ilen i))
    {as : List Value} (hd : ∀ v ∈ as, ∀ x, v ≠ .double x) (hlen : (layA as).length ≤ me.ml) {w w' : Wd} {v : Option Value} {h : Heap} (hr : lexec P Q sc f mi me 0 (lay as me.ml) [] w = some (v, w'))
    (hc1 : w.2.1 * (P.al.length + 1) + (if w.2.2 = true then 1 else 0) ≤ Q.rc) (hc2 : w.2.1 * (Q.nf + zs P.al P.al.length) + (if w.2.2 = true then Q.nf else 0) ≤ Q.rs)
    (H : LRep P Z h a n0 sc w) :
    MetFree l (zOf Q me) (head1 [Cond.code (zOf Q me) bytes me.ml (retOf me.rt)] (lRoom Q mi me)) (fun b U => b = (as.map (va (rho a n0 (P.al.length + 1)))).toArray ∧ Z.Warmed39 U.vm ∧ U.heap = h) (fun _ _ _ _ _ => True)
      (fun _ U o U' => ∃ u L, o = .returned u ∧ QL P Z a n0 sc v w' u U'.heap L ∧ FrameEnd U o U' L (lRoom Q mi me).cells (lRoom Q mi me).slots) := by
  refine MetFree.of_bodySF (plainFor_of_name LL.2.2.2.2.2.2.1) hisR ?_
  intro p e s₀ m args below meth cd s₁ Bd hml hP hK
  obtain ⟨rfl, hZ, hh⟩ := hP
  have e0 : s₁.heap = h := by rw [← hh, Bd.state]; rfl
  have X0 : Stand p l e (lRoom Q mi me) s₀ m _ below meth cd s₁ [] 0 0 := Stand.of_body Bd
  have hown : s₀.vm.findClass Q.nm = some m.cls := findClass_of_methodNamed Bd.named
  have hk0 : lco P mi w = 0 := by simp [lco, hmi]
  have hz0 : lzo P Q mi w = 0 := by simp [lzo, hmi]
  have D := hW p l e s₀ m _ below meth cd s₁ [] 0 (lay as me.ml) [] w v w' _ Bd.exec hZ hown Bd.returns hml Bd.notSynchronized (fun q => absurd q hmi)
    (fun pc i n q => by rw [Bd.bytes]; exact hdec pc i n q) hr (by rw [hk0, hz0]; exact X0) (by simpa [lRoom] using hc1) (by simpa [lRoom] using hc2) (by rw [e0]; exact H) (Fr.nil n0) (lay_LR hd hlen) (lay_len hlen)
  obtain ⟨s₂, o, a1, a2, a3, u, L, a4, a5, a6⟩ := D
  exact ⟨s₂, o, a1, a2, a3, u, L, a4, a5, a6⟩
end Jvm.LM

namespace Jvm.LM
open Sem ClassFile Op Lib Jvm.Stand Jvm.Free Jvm.LawKit Jvm.RoadKit
theorem rng {a b K : Nat} (h : a < b) : a * K + K ≤ b * K := by
  have := Nat.mul_le_mul_right K (show a + 1 ≤ b from h)
  rw [Nat.succ_mul] at this; exact this
theorem SRep.congr {Z : State} {h h' : Heap} {a n0 : Nat} {sc : Sc} (H : SRep Z h a n0 sc) (e : ∀ x, x < n0 → h'[x]? = h[x]?) : SRep Z h' a n0 sc := by
  unfold SRep at H ⊢
  split
  · trivial
  · obtain ⟨h1, cl, ⟨q1, q2⟩, q3⟩ := H
    exact ⟨h1, cl, ⟨by rw [e a h1]; exact q1, q2⟩, q3⟩
/-- one object has moved, the others stand -/
theorem LRep.call {P : Cl} {Z : State} {h h' : Heap} {a n0 o : Nat} {sc : Sc} {w : Wd} {s' : St} (H : LRep P Z h a n0 sc w) (ho : o < w.2.1) (K : Kp h h' (n0 + o * (P.al.length + 1)) P.al.length) (hs : h'.size = h.size) (H' : HRep P Z h' (n0 + o * (P.al.length + 1)) P.al.length s') :
    LRep P Z h' a n0 sc (uo w.1 o s', w.2.1, w.2.2) := by
  obtain ⟨h1, h2, h3, h4⟩ := H
  refine ⟨h1.congr fun x hx => K x (Or.inl (by omega)), fun o' ho' => ?_, fun q => ?_, by rw [hs]; exact h4⟩
  · by_cases e : o' = o
    · subst e; simpa [uo] using H'
    · have := (h2 o' ho').congr (h' := h') fun x hx1 hx2 => K x (by
        rcases Nat.lt_or_gt_of_ne e with q | q
        · have := rng (K := P.al.length + 1) q; omega
        · have := rng (K := P.al.length + 1) q; omega)
      simpa [uo, e] using this
  · have e : w.2.1 ≠ o := by omega
    have := (h3 q).congr (h' := h') fun x hx1 hx2 => K x (by have := rng (K := P.al.length + 1) ho; omega)
    simpa [uo, e] using this
theorem ar1 {x k r y : Nat} (e : y = x + (k + 1)) (h : y ≤ r) : x + 1 + k ≤ r := by omega
theorem ar3 {x k y : Nat} (h : y = x + (k + 1)) : y + 0 = x + 1 + k := by omega
theorem ar4 {x f z y : Nat} (h : y = x + (f + z)) : y + 0 = x + f + z := by omega
theorem ar5 {x f z r y : Nat} (e : y = x + (f + z)) (h : y ≤ r) : x + f + z ≤ r := by omega
theorem ar6 {n x k y : Nat} (h : y = x + (k + 1)) : n + x + 1 + k = n + y + 0 := by omega
theorem lwalk {P : Cl} {Q : Lw} {sc : Sc} {Z : State} {a0 : Array Value} (LK : LinkC P Z a0) (LL : LinkL P Q Z a0) {a n0 : Nat} : ∀ f mi me, asc Q.ms mi = some me → LW P Q sc Z a n0 f mi me := by
  intro f
  induction f with
  | zero =>
    intro mi me hme p l e s₀ m args below meth cd T locs pc ls st w v w' L hx hZ hown hret hml hlk hs0 hdec hr
    cases hr
  | succ f ih =>
    intro mi me hme p l e s₀ m args below meth cd T locs pc ls st w v w' L hx hZ hown hret hml hlk hs0 hdec hr X hc1 hc2 I hFr hL hlen
    simp only [lexec] at hr
    split at hr
    · cases hr
    · rename_i i n hf
      obtain ⟨hd, hn⟩ := hdec pc i n hf
      have ihk := ih mi me hme
      have hsize : L.size = cd.maxLocals := by rw [hL.1, hlen, hml]
      unfold lstep at hr
      split at hr
      -- iaload
      · obtain rfl := hn.resolve_left Bool.false_ne_true
        split at hr
        · rename_i N g j r
          split at hr
          · rename_i hin
            obtain ⟨ha, cl, A, hN, hv⟩ : SRep Z T.heap a n0 (some (N, g)) := I.1
            refine Don.step (fun t q => ?_) (ihk p l e s₀ m args below meth cd T locs _ ls (.int (g (ix j)) :: r) w v w' L hx hZ hown hret hml hlk hs0 hdec hr X hc1 hc2 I hFr hL hlen)
            exact X.iaload hx A.1 (State.isArrayOf_alike hZ.alike A.2.1) A.2.2 (by rw [hN]; exact inb_not hin) (hv (ix j) (inb_ix hin)) (g := mkF m pc L (.int j :: .ref a :: r.map (va (rho a n0 (P.al.length + 1))))) rfl rfl hd t q
          · cases hr
        · cases hr
      -- arraylength
      · obtain rfl := hn.resolve_left Bool.false_ne_true
        split at hr
        · rename_i N g r
          obtain ⟨ha, cl, A, hN, hv⟩ : SRep Z T.heap a n0 (some (N, g)) := I.1
          refine Don.step (fun t q => ?_) (ihk p l e s₀ m args below meth cd T locs _ ls (.int (Int32.ofNat N) :: r) w v w' L hx hZ hown hret hml hlk hs0 hdec hr X hc1 hc2 I hFr hL hlen)
          exact X.arraylength hx A.1 (State.isArrayOf_alike hZ.alike A.2.1) (g := mkF m pc L (.ref a :: r.map (va (rho a n0 (P.al.length + 1))))) rfl rfl hd t (by rw [hN]; exact q)
        · cases hr
      -- constants
      · obtain rfl := hn.resolve_left Bool.false_ne_true
        split at hr
        · rename_i z hg
          exact Don.step (fun t q => X.ldcI hx hown (mv hZ (LL.2.2.2.2.1 _ _ hg)) (g := mkF m pc L (st.map (va (rho a n0 (P.al.length + 1))))) rfl hd q) (ihk p l e s₀ m args below meth cd T locs _ ls (.int z :: st) w v w' L hx hZ hown hret hml hlk hs0 hdec hr X hc1 hc2 I hFr hL hlen)
        · cases hr
      · obtain rfl := hn.resolve_left Bool.false_ne_true
        split at hr
        · rename_i z hg
          exact Don.step (fun t q => X.ldc2J hx hown (mv hZ (LL.2.2.2.2.1 _ _ hg)) (g := mkF m pc L (st.map (va (rho a n0 (P.al.length + 1))))) rfl hd q) (ihk p l e s₀ m args below meth cd T locs _ ls (.long z :: st) w v w' L hx hZ hown hret hml hlk hs0 hdec hr X hc1 hc2 I hFr hL hlen)
        · cases hr
      -- new
      · obtain rfl := hn.resolve_left Bool.false_ne_true
        split at hr
        · rename_i hg
          obtain ⟨rfl, rfl, hp, hg1, hg2⟩ := hg
          obtain ⟨os, cnt, pend⟩ := w
          dsimp only at hp hg1 hg2 hr
          subst hp
          have hk : lco P 0 (os, cnt, false) = cnt * (P.al.length + 1) := by simp [lco]
          have hz : lzo P Q 0 (os, cnt, false) = cnt * (Q.nf + zs P.al P.al.length) := by simp [lzo]
          have m1 : (cnt + 1) * (P.al.length + 1) = cnt * (P.al.length + 1) + (P.al.length + 1) := Nat.succ_mul ..
          have m2 : (cnt + 1) * (Q.nf + zs P.al P.al.length) = cnt * (Q.nf + zs P.al P.al.length) + (Q.nf + zs P.al P.al.length) := Nat.succ_mul ..
          rw [hk, hz] at X
          obtain ⟨T', h', X', q1, E, A, D, -, st1⟩ := newO X hx hZ hown LL.1.1 LL.1.2 LK.1.2 rfl (g := mkF m pc L (st.map (va (rho a n0 (P.al.length + 1))))) rfl hd (by simp only [lRoom, if_true]; omega) (by simp only [lRoom, if_true]; omega)
          obtain ⟨i1, i2, i3, i4⟩ := I
          have hsz : T.heap.size = n0 + cnt * (P.al.length + 1) := by simpa using i4
          have hsz' : h'.size = n0 + cnt * (P.al.length + 1) + 1 := by
            have g1 : T'.heap.size ≤ s₀.heap.size + (cnt * (P.al.length + 1) + 1) := X'.heapSize
            have g2 : T.heap.size < Array.size h' := A.lt
            rw [q1, hs0 rfl] at g1
            rw [hsz] at g2
            omega
          have same : ∀ x, x < T.heap.size → h'[x]? = T.heap[x]? := fun x hx => by
            obtain ⟨cc, hcc⟩ : ∃ cc, T.heap[x]? = some cc := ⟨T.heap[x], Array.getElem?_eq_getElem hx⟩
            rw [hcc]; exact E.2 _ _ hcc
          have I' : LRep P Z T'.heap a n0 sc (uo os cnt s0, cnt, true) := by
            rw [q1]
            refine ⟨i1.congr fun x hx => same x (by omega), fun o ho => ?_, fun _ => ?_, by simpa using hsz'⟩
            · have := (i2 o ho).congr (h' := h') fun x hx1 hx2 => same x (by have := rng (K := P.al.length + 1) (show o < cnt from ho); omega)
              simpa [uo, show o ≠ cnt from Nat.ne_of_lt ho] using this
            · simp only [uo, if_true]
              rw [hsz] at A D
              refine ⟨A, fun k fe hk => ?_, fun j tt N hj hc => absurd hc (Nat.not_lt_zero _), fun j i hj => ⟨rfl, rfl⟩, Nat.zero_le _⟩
              have q := D (laid_of LK hk) (LK.2.2.2.1 k fe hk)
              have e2 : Fval (n0 + cnt * (P.al.length + 1)) 0 s0 k fe = defaultValue (fkTy P fe.2.2.1) := by
                simp only [Fval]; split
                · rename_i e3; rw [e3]; rfl
                · rename_i e3; rw [e3]; rfl
                · rename_i e3; rw [e3]; rfl
                · rename_i e3; rw [e3]; rfl
              rw [e2]; exact q
          refine Don.step (fun t q => st1 t ?_) (ihk p l e s₀ m args below meth cd T' locs _ ls (.ref (cnt + 1) :: st) _ v w' L hx hZ hown hret hml hlk hs0 hdec hr (by simpa [lco, lzo] using X') (by simp only [lRoom, if_true]; omega) (by simp only [lRoom, if_true]; omega) I' hFr hL hlen)
          rw [hsz]; exact q
        · cases hr
      -- the constructor
      · obtain rfl := hn.resolve_left Bool.false_ne_true
        split at hr
        · cases hr
        · rename_i me' hme'
          split at hr
          · rename_i o r hst
            split at hr
            · rename_i hg
              obtain ⟨rfl, rfl, hgo, hp, hg1, hg2, hg3, hg4, hg5⟩ := hg
              obtain ⟨os, cnt, pend⟩ := w
              dsimp only at hgo hp hg1 hg2 hr hg4 hg5
              subst hp hgo
              obtain ⟨bytes, ps, hcode, hdec', hpar, hpl⟩ := LK.2.2.2.2.2.2.2.2.1 0 me' hme'
              obtain ⟨w1, w2, hrt⟩ := LL.2.1 me' hme'
              have hcode' := hcode
              rw [hrt] at hcode'
              have hini := LK.2.2.2.2.2.2.2.2.2.2.2.2 me' hme'
              have m1 : (o + 1) * (P.al.length + 1) = o * (P.al.length + 1) + (P.al.length + 1) := Nat.succ_mul ..
              have m2 : (o + 1) * (Q.nf + zs P.al P.al.length) = o * (Q.nf + zs P.al P.al.length) + (Q.nf + zs P.al P.al.length) := Nat.succ_mul ..
              simp only [ccall, hme'] at hr
              by_cases hla : (layA (Value.ref 0 :: (st.take me'.na).reverse)).length ≤ me'.ml
              · rw [if_pos hla] at hr
                cases hcl : cexec P f 0 me' 0 0 (lay (.ref 0 :: (st.take me'.na).reverse) me'.ml) [] (os o) with
                | none => rw [hcl] at hr; cases hr
                | some vs =>
                  obtain ⟨u, s1⟩ := vs
                  rw [hcl] at hr
                  cases u with
                  | some u => cases hr
                  | none =>
                    dsimp only at hr
                    obtain ⟨i1, i2, i3, i4⟩ := I
                    have hsz : T.heap.size = n0 + o * (P.al.length + 1) + 1 := by simpa using i4
                    have hM := met_of_CW LK hme' (cwalk LK (n0 := n0) (adr := n0 + o * (P.al.length + 1)) (Nat.le_add_right _ _) f 0 me' hme') l hdec' (as := .ref 0 :: (st.take me'.na).reverse) (nd_rev (ρ := id) (nr_nd hg3)) hla hcl (fun _ => rfl) (i3 rfl) (fun _ => hsz)
                    have hB := backOf (R := lRoom Q 0 me) (p := p) (e := e) (below := below) (s := s₀) (args := args) (len := 3) (W := cats r) hM hZ hcode LK.1.2 hg1 hg2
                    have hdl : me'.na < st.length := by
                      have := congrArg List.length hst
                      simp at this; omega
                    have hsp : st = st.take me'.na ++ .ref (o + 1) :: r := by rw [← hst, List.take_append_drop]
                    have hrv : ∀ ρ : Nat → Nat, (st.take me'.na).reverse.map (va ρ) = (st.take me'.na).reverse := fun ρ => by rw [List.map_reverse, nr_map hg3]
                    have hsm : st.map (va (rho a n0 (P.al.length + 1))) = ((st.take me'.na).reverse).reverse ++ .ref (n0 + o * (P.al.length + 1)) :: r.map (va (rho a n0 (P.al.length + 1))) := by
                      conv => lhs; rw [hsp]
                      rw [List.map_append, nr_map hg3]; simp [va, rho]
                    have hll : ∀ sig, parseMethodDescriptor (yOf P me').desc = some sig → ((st.take me'.na).reverse).length = sig.parameters.length := lenOf hpar (by simp [hpl]; omega)
                    have hk : lco P 0 (os, o, true) = o * (P.al.length + 1) + 1 := by simp [lco]
                    have hz : lzo P Q 0 (os, o, true) = o * (Q.nf + zs P.al P.al.length) + Q.nf := by simp [lzo]
                    rw [hk, hz] at X
                    have hpre : ∀ vm₁, s₀.WarmedH vm₁ → ((Value.ref (n0 + o * (P.al.length + 1)) :: (st.take me'.na).reverse).toArray = ((Value.ref 0 :: (st.take me'.na).reverse).map (va ((n0 + o * (P.al.length + 1)) + ·))).toArray ∧ (T.setVm vm₁).heap = T.heap ∧ o * (P.al.length + 1) + 1 + (cRoom P 0 me').cells ≤ (lRoom Q 0 me).cells ∧ o * (Q.nf + zs P.al P.al.length) + Q.nf + (cRoom P 0 me').slots ≤ (lRoom Q 0 me).slots) := fun vm₁ _ => by
                      refine ⟨by rw [List.map_cons, hrv]; rfl, rfl, ?_, ?_⟩
                      · show o * (P.al.length + 1) + 1 + P.al.length ≤ Q.rc
                        exact ar1 m1 hg4
                      · show o * (Q.nf + zs P.al P.al.length) + Q.nf + zs P.al P.al.length ≤ Q.rs
                        exact ar5 m2 hg5
                    obtain ⟨v', vm₁, ⟨U, lo, ce, sl⟩, -, X', ⟨Lc, hQ, l1, l2, l3⟩, stp⟩ := X.specialBack hx (y := yOf P me') hini hown (mv hZ w1) (mv hZ w2) (mv hZ hcode') LK.2.2.2.2.2.2.2.2.2.2.2.1 hB (g := mkF m pc L (st.map (va (rho a n0 (P.al.length + 1))))) rfl hsize (Steps.refl _) hll hsm (by show 2 * 0 + _ ≤ _; rw [cats_va]; omega) hd hpre
                    dsimp only [Pt.U, Pt.locs, Pt.cells, Pt.slots] at X' hQ l1 l2 l3 stp
                    subst l1 l2 l3
                    obtain ⟨⟨rfl, -⟩, hF', hH', hK', hS'⟩ := hQ
                    rw [if_pos rfl] at hH' hS'
                    have I' : LRep P Z U.heap a n0 sc (uo os o s1, o + 1, false) := by
                      refine ⟨i1.congr fun x hx => hK' x (Or.inl (by omega)), fun o' ho' => ?_, fun q => by simp at q, by rw [hS']; show n0 + o * (P.al.length + 1) + 1 + P.al.length = n0 + (o + 1) * (P.al.length + 1) + 0; exact ar6 m1⟩
                      by_cases e2 : o' = o
                      · subst e2; simpa [uo] using hH'
                      · have ho2 : o' < o := by have : o' < o + 1 := ho'; omega
                        have := (i2 o' ho2).congr (h' := U.heap) fun x hx1 hx2 => hK' x (by have := rng (K := P.al.length + 1) ho2; omega)
                        simpa [uo, e2] using this
                    refine Don.step (fun t q => stp.trans q) (ihk p l e s₀ m args below meth cd U (locs ++ Lc) _ ls r _ v w' L hx hZ hown hret hml hlk hs0 hdec hr ?_ (by show (o + 1) * (P.al.length + 1) + 0 ≤ Q.rc; omega) (by show (o + 1) * (Q.nf + zs P.al P.al.length) + 0 ≤ Q.rs; omega) I' (hFr.app hF') hL hlen)
                    have h1 : lco P 0 (uo os o s1, o + 1, false) = o * (P.al.length + 1) + 1 + (cRoom P 0 me').cells := by
                      show (o + 1) * (P.al.length + 1) + 0 = o * (P.al.length + 1) + 1 + P.al.length
                      exact ar3 m1
                    have h2 : lzo P Q 0 (uo os o s1, o + 1, false) = o * (Q.nf + zs P.al P.al.length) + Q.nf + (cRoom P 0 me').slots := by
                      show (o + 1) * (Q.nf + zs P.al P.al.length) + 0 = o * (Q.nf + zs P.al P.al.length) + Q.nf + zs P.al P.al.length
                      exact ar4 m2
                    rw [h1, h2]; exact X'
              · rw [if_neg hla] at hr; cases hr
            · cases hr
          · cases hr
      -- a method of the class
      · obtain rfl := hn.resolve_left Bool.false_ne_true
        split at hr
        · cases hr
        · rename_i m' hm'
          split at hr
          · cases hr
          · rename_i me' hme'
            split at hr
            · rename_i o r hst
              split at hr
              · rename_i hg
                obtain ⟨hg0, hgo, hg1, hg2, hg3⟩ := hg
                obtain ⟨bytes, ps, hcode, hdec', hpar, hpl⟩ := LK.2.2.2.2.2.2.2.2.1 m' me' hme'
                obtain ⟨w1, w2, w3, w4⟩ := LL.2.2.1 _ _ hm' me' hme'
                simp only [ccall, hme'] at hr
                by_cases hla : (layA (Value.ref 0 :: (st.take me'.na).reverse)).length ≤ me'.ml
                · rw [if_pos hla] at hr
                  cases hcl : cexec P f m' me' P.al.length 0 (lay (.ref 0 :: (st.take me'.na).reverse) me'.ml) [] (w.1 o) with
                  | none => rw [hcl] at hr; cases hr
                  | some vs =>
                    obtain ⟨u, s1⟩ := vs
                    rw [hcl] at hr
                    have hr' : lexec P Q sc f mi me (pc + 3) ls (u.toList ++ r) (uo w.1 o s1, w.2.1, w.2.2) = some (v, w') := by cases u <;> exact hr
                    have hM := met_of_CW LK hme' (cwalk LK (n0 := n0) (adr := n0 + o * (P.al.length + 1)) (Nat.le_add_right _ _) f m' me' hme') l hdec' (as := .ref 0 :: (st.take me'.na).reverse) (nd_rev (ρ := id) (nr_nd hg3)) hla hcl (fun q => absurd q hg0) (I.2.1 o hgo) (fun q => absurd q hg0)
                    have hB := backOf (R := lRoom Q mi me) (p := p) (e := e) (below := below) (s := s₀) (args := args) (len := 3) (W := cats r) hM hZ hcode LK.1.2 hg1 hg2
                    have hdl : me'.na < st.length := by
                      have := congrArg List.length hst
                      simp at this; omega
                    have hsp : st = st.take me'.na ++ .ref (o + 1) :: r := by rw [← hst, List.take_append_drop]
                    have hrv : ∀ ρ : Nat → Nat, (st.take me'.na).reverse.map (va ρ) = (st.take me'.na).reverse := fun ρ => by rw [List.map_reverse, nr_map hg3]
                    have hsm : st.map (va (rho a n0 (P.al.length + 1))) = ((st.take me'.na).reverse).reverse ++ .ref (n0 + o * (P.al.length + 1)) :: r.map (va (rho a n0 (P.al.length + 1))) := by
                      conv => lhs; rw [hsp]
                      rw [List.map_append, nr_map hg3]; simp [va, rho]
                    have hll : ∀ sig, parseMethodDescriptor (yOf P me').desc = some sig → ((st.take me'.na).reverse).length = sig.parameters.length := lenOf hpar (by simp [hpl]; omega)
                    have hz1 : (cRoom P m' me').cells = 0 := by simp [cRoom, hg0]
                    have hz2 : (cRoom P m' me').slots = 0 := by simp [cRoom, hg0]
                    have hpre : ∀ vm₁, s₀.WarmedH vm₁ → ((Value.ref (n0 + o * (P.al.length + 1)) :: (st.take me'.na).reverse).toArray = ((Value.ref 0 :: (st.take me'.na).reverse).map (va ((n0 + o * (P.al.length + 1)) + ·))).toArray ∧ (T.setVm vm₁).heap = T.heap ∧ lco P mi w + (cRoom P m' me').cells ≤ (lRoom Q mi me).cells ∧ lzo P Q mi w + (cRoom P m' me').slots ≤ (lRoom Q mi me).slots) := fun vm₁ _ => by
                      refine ⟨by rw [List.map_cons, hrv]; rfl, rfl, ?_, ?_⟩
                      · rw [hz1]; simp only [lco, lRoom] at *; split
                        · simpa using hc1
                        · exact Nat.le_refl _
                      · rw [hz2]; simp only [lzo, lRoom] at *; split
                        · simpa using hc2
                        · exact Nat.le_refl _
                    obtain ⟨cq, kq, qa, qb, qc⟩ := isOf hZ rfl (I.2.1 o hgo).1
                    obtain ⟨v', vm₁, ⟨U, lo, ce, sl⟩, -, X', ⟨Lc, hQ, l1, l2, l3⟩, stp⟩ := X.virtualBack hx (y := yOf P me') (z := yOf P me') hown (mv hZ w1) (mv hZ w2) (notFace_of_selects (args := #[]) (mv hZ w4)) (mv hZ w4) (mv hZ w3) LK.2.2.2.2.2.2.2.2.2.2.2.1 hB qa qc (g := mkF m pc L (st.map (va (rho a n0 (P.al.length + 1))))) rfl hsize (Steps.refl _) hll hsm (by show 2 * 0 + _ ≤ _; rw [cats_va]; omega) hd hpre
                    dsimp only [Pt.U, Pt.locs, Pt.cells, Pt.slots] at X' hQ l1 l2 l3 stp
                    subst l1 l2 l3
                    obtain ⟨⟨rfl, hva⟩, hF', hH', hK', hS'⟩ := hQ
                    rw [if_neg hg0] at hH' hS'
                    rw [hz1, hz2] at X'
                    refine Don.step (fun t q => stp.trans ?_) (ihk p l e s₀ m args below meth cd U (locs ++ Lc) _ ls (v'.toList ++ r) _ v w' L hx hZ hown hret hml hlk hs0 hdec hr' X' hc1 hc2 (I.call hgo hK' hS' hH') (hFr.app hF') hL hlen)
                    rw [List.map_append, hva] at q; exact q
                · rw [if_neg hla] at hr; cases hr
              · cases hr
            · cases hr
      -- a static method of the law
      · obtain rfl := hn.resolve_left Bool.false_ne_true
        split at hr
        · cases hr
        · rename_i m' hm'
          split at hr
          · cases hr
          · rename_i me' hme'
            split at hr
            · rename_i hg
              obtain ⟨hg0, hgn, hg1, hg2, hg3⟩ := hg
              obtain ⟨bytes, ps, hcode, hdec', hpar, hpl⟩ := LL.2.2.2.2.2.1 m' me' hme' hg0
              obtain ⟨w1, w2, w3⟩ := LL.2.2.2.1 _ _ hm' me' hme'
              dsimp only at hr
              rw [hme'] at hr
              dsimp only at hr
              by_cases hla : (layA (st.take me'.na).reverse).length ≤ me'.ml
              · rw [if_pos hla] at hr
                cases hcl : lexec P Q sc f m' me' 0 (lay (st.take me'.na).reverse me'.ml) [] w with
                | none => rw [hcl] at hr; cases hr
                | some vs =>
                  obtain ⟨u, w2'⟩ := vs
                  rw [hcl] at hr
                  have hr' : lexec P Q sc f mi me (pc + 3) ls (u.toList ++ st.drop me'.na) w2' = some (v, w') := by cases u <;> exact hr
                  have hndv : ∀ v ∈ (st.take me'.na).reverse, ∀ x, v ≠ .double x := fun v hv x e => nd_spec hg3 v (List.mem_reverse.mp hv) x e
                  have hM := met_of_LW LL (ih m' me' hme') hg0 l hdec' (as := (st.take me'.na).reverse) hndv hla hcl (by simpa [lRoom] using hc1) (by simpa [lRoom] using hc2) I
                  have hB := backOf (R := lRoom Q mi me) (p := p) (e := e) (below := below) (s := s₀) (args := args) (len := 3) (W := cats (st.drop me'.na)) hM hZ hcode w3 hg1 hg2
                  have hsm : st.map (va (rho a n0 (P.al.length + 1))) = (((st.take me'.na).reverse).map (va (rho a n0 (P.al.length + 1)))).reverse ++ (st.drop me'.na).map (va (rho a n0 (P.al.length + 1))) := by
                    conv => lhs; rw [← List.take_append_drop me'.na st]
                    simp
                  have hll : ∀ sig, parseMethodDescriptor (zOf Q me').desc = some sig → (((st.take me'.na).reverse).map (va (rho a n0 (P.al.length + 1)))).length = sig.parameters.length := lenOf hpar (by simp [hpl]; omega)
                  have hz1 : (lRoom Q m' me').cells = 0 := by simp [lRoom, hg0]
                  have hz2 : (lRoom Q m' me').slots = 0 := by simp [lRoom, hg0]
                  have hpre : ∀ vm₁, s₀.WarmedH vm₁ → ((((st.take me'.na).reverse).map (va (rho a n0 (P.al.length + 1)))).toArray = (((st.take me'.na).reverse).map (va (rho a n0 (P.al.length + 1)))).toArray ∧ (T.setVm vm₁).heap = T.heap ∧ lco P mi w + (lRoom Q m' me').cells ≤ (lRoom Q mi me).cells ∧ lzo P Q mi w + (lRoom Q m' me').slots ≤ (lRoom Q mi me).slots) := fun vm₁ _ => by
                    refine ⟨rfl, rfl, ?_, ?_⟩
                    · rw [hz1]; simp only [lco, lRoom] at *; split
                      · simpa using hc1
                      · exact Nat.le_refl _
                    · rw [hz2]; simp only [lzo, lRoom] at *; split
                      · simpa using hc2
                      · exact Nat.le_refl _
                  obtain ⟨v', vm₁, ⟨U, lo, ce, sl⟩, -, X', ⟨Lc, hQ, l1, l2, l3⟩, stp⟩ := Jvm.LawKit.callS X hx (y := zOf Q me') hown (mv hZ w1) (mv hZ w2) (mv hZ w3) (mv hZ hcode) LL.2.2.2.2.2.2.2 hB (g := mkF m pc L (st.map (va (rho a n0 (P.al.length + 1))))) rfl hsize hll hsm (by show 2 * 0 + _ ≤ _; rw [cats_va]; omega) hd hpre
                  dsimp only [Pt.U, Pt.locs, Pt.cells, Pt.slots] at X' hQ l1 l2 l3 stp
                  subst l1 l2 l3
                  obtain ⟨⟨rfl, hva⟩, hF', hI'⟩ := hQ
                  rw [hz1, hz2] at X'
                  have hcn := lexec_cnt _ _ _ _ _ _ _ _ _ hg0 hcl
                  have e1 : lco P mi w2' = lco P mi w := by simp only [lco, hcn]
                  have e2 : lzo P Q mi w2' = lzo P Q mi w := by simp only [lzo, hcn]
                  refine Don.step (fun t q => stp t ?_) (ihk p l e s₀ m args below meth cd U (locs ++ Lc) _ ls (v'.toList ++ st.drop me'.na) _ v w' L hx hZ hown hret hml hlk hs0 hdec hr' (by rw [e1, e2]; exact X') (by rw [hcn]; exact hc1) (by rw [hcn]; exact hc2) hI' (hFr.app hF') hL hlen)
                  rw [List.map_append, hva] at q; exact q
              · rw [if_neg hla] at hr; cases hr
            · cases hr
      -- the rest
      · split at hr
        · split at hr
          · rename_i u hu
            cases hr
            refine st_ret X hx hret hlk hu hd hn ⟨⟨rfl, cret_va hu⟩, hFr, I⟩ ?_ ?_
            · simp only [lco, lRoom] at *; split
              · simpa using hc1
              · exact Nat.le_refl _
            · simp only [lzo, lRoom] at *; split
              · simpa using hc2
              · exact Nat.le_refl _
          · cases hr
        · split at hr
          · rename_i pc' ls' st' hp
            obtain ⟨L', hL', hLs, st⟩ := pstep_sound X hx hp hd hn hL
            have hlen' : ls'.length = me.ml := by rw [← hL'.1, hLs, hL.1]; exact hlen
            exact Don.step st (ihk p l e s₀ m args below meth cd T locs _ ls' st' w v w' L' hx hZ hown hret hml hlk hs0 hdec hr X hc1 hc2 I hFr hL' hlen')
          · cases hr
/-- the law as a whole: what the machine returns, the program returns -/
theorem law_met {P : Cl} {Q : Lw} {sc : Sc} {Z : State} {a0 : Array Value} (LK : LinkC P Z a0) (LL : LinkL P Q Z a0) {a f : Nat} {me : Me} (hme : asc Q.ms 0 = some me) (l : Launch) {bytes : ByteArray} {ws : List Cond}
    (hdec : ∀ pc i n, fetch me.cd pc = some (i, n) → decode bytes pc = .ok (i, n) ∧ (isSw i = true ∨ n = ilen i))
    {as : List Value} (hnd : nd as = true) (hlen : (layA as).length ≤ me.ml) {v : Option Value} {w' : Wd} {h : Heap} (hr : lexec P Q sc f 0 me 0 (lay as me.ml) [] (fun _ => s0, 0, false) = some (v, w')) (hS : SRep Z h a h.size sc) :
    MetFree l (zOf Q me) (head1 (Cond.code (zOf Q me) bytes me.ml (retOf me.rt) :: ws) (lRoom Q 0 me)) (fun b U => b = (as.map (va (rho a h.size (P.al.length + 1)))).toArray ∧ Z.Warmed39 U.vm ∧ U.heap = h) (fun _ _ _ _ _ => True)
      (fun _ U o U' => ∃ u L, o = .returned u ∧ (u = v ∧ Fr h.size L) ∧ FrameEnd U o U' L Q.rc Q.rs) := by
  refine MetFree.of_bodySF (plainFor_of_name LL.2.2.2.2.2.2.1) hisR ?_
  intro p e s₀ m args below meth cd s₁ Bd hml hP hK
  obtain ⟨rfl, hZ, hh⟩ := hP
  have e0 : s₁.heap = h := by rw [← hh, Bd.state]; rfl
  have X0 : Stand p l e (lRoom Q 0 me) s₀ m _ below meth cd s₁ [] 0 0 := Stand.of_body Bd
  have hown : s₀.vm.findClass Q.nm = some m.cls := findClass_of_methodNamed Bd.named
  have hk0 : lco P 0 (fun _ => s0, 0, false) = 0 := by simp [lco]
  have hz0 : lzo P Q 0 (fun _ => s0, 0, false) = 0 := by simp [lzo]
  have D := lwalk LK LL (sc := sc) (a := a) (n0 := h.size) f 0 me hme p l e s₀ m _ below meth cd s₁ [] 0 (lay as me.ml) [] (fun _ => s0, 0, false) v w' _ Bd.exec hZ hown Bd.returns hml Bd.notSynchronized (fun _ => by rw [hh])
    (fun pc i n q => by rw [Bd.bytes]; exact hdec pc i n q) hr (by rw [hk0, hz0]; exact X0) (by simp) (by simp) (by
      rw [e0]; exact ⟨hS, fun o ho => absurd ho (Nat.not_lt_zero _), fun q => by simp at q, by simp⟩) (Fr.nil _) (lay_LR (nd_spec hnd) hlen) (lay_len hlen)
  obtain ⟨s₂, o, a1, a2, a3, u, L, a4, a5, a6⟩ := D
  refine ⟨s₂, o, a1, a2, a3, u, L, a4, ⟨a5.1.1, a5.2.1⟩, ?_⟩
  simpa [lRoom] using a6
end Jvm.LM

namespace Jvm.LM
open Sem ClassFile Op Lib Jvm.Stand Jvm.Free Jvm.LawKit Jvm.RoadKit
/-! what a run of the machine comes to -/
theorem cstep_mono {α : Type} {P : Cl} {mi : Nat} {me : Me} {rt : Option Value → St → Option α} {cl cl' : Nat → Nat → List Value → St → Rs} {k k' : Nat → Nat → Lv → List Value → St → Option α} {i : Instr} {c pc : Nat} {ls : Lv} {st : List Value} {s : St} {r : α}
    (hcl : ∀ m c as s r, cl m c as s = some r → cl' m c as s = some r) (hk : ∀ c pc ls st s r, k c pc ls st s = some r → k' c pc ls st s = some r) (h : cstep P mi me rt cl k i c pc ls st s = some r) : cstep P mi me rt cl' k' i c pc ls st s = some r := by
  unfold cstep at h ⊢
  split at h
  all_goals (try dsimp only)
  · split at h
    · split at h
      · exact hk _ _ _ _ _ _ h
      · cases h
    · cases h
  · split at h
    · split at h
      · exact hk _ _ _ _ _ _ h
      · cases h
    · cases h
  · split at h
    · exact hk _ _ _ _ _ _ h
    · cases h
  · split at h
    · exact hk _ _ _ _ _ _ h
    · cases h
  · split at h
    · exact hk _ _ _ _ _ _ h
    · cases h
  · split at h
    · exact hk _ _ _ _ _ _ h
    · cases h
  · split at h
    · exact hk _ _ _ _ _ _ h
    · cases h
  · split at h
    · exact hk _ _ _ _ _ _ h
    · cases h
  · split at h
    · rename_i q; rw [if_pos q]; exact hk _ _ _ _ _ _ h
    · cases h
  · split at h
    · exact hk _ _ _ _ _ _ h
    · cases h
  · split at h
    · exact hk _ _ _ _ _ _ h
    · cases h
  · split at h
    · split at h
      · rename_i q; rw [if_pos q]; exact hk _ _ _ _ _ _ h
      · cases h
    · cases h
  · split at h
    · cases h
    · rename_i m' hm'
      split at h
      · cases h
      · rename_i me' hme'
        split at h
        · rename_i r0 hst
          split at h
          · rename_i q
            rw [if_pos q]
            split at h
            · rename_i s1 hc; rw [hcl _ _ _ _ _ hc]; exact hk _ _ _ _ _ _ h
            · rename_i v1 s1 hc; rw [hcl _ _ _ _ _ hc]; exact hk _ _ _ _ _ _ h
            · cases h
          · cases h
        · cases h
  · split at h
    · rename_i q; rw [if_pos q]; exact h
    · rename_i q; rw [if_neg q]
      split at h
      · exact hk _ _ _ _ _ _ h
      · cases h
theorem cexec_succ {P : Cl} : ∀ f mi me c pc ls st s r, cexec P f mi me c pc ls st s = some r → cexec P (f + 1) mi me c pc ls st s = some r := by
  intro f
  induction f with
  | zero => intro mi me c pc ls st s r h; cases h
  | succ f ih =>
    intro mi me c pc ls st s r h
    rw [cexec] at h ⊢
    split at h
    · cases h
    · refine cstep_mono (fun m c as s r h => ?_) (fun c pc ls st s r h => ih _ _ _ _ _ _ _ _ h) h
      split at h
      · split at h
        · rename_i q; rw [if_pos q]; exact ih _ _ _ _ _ _ _ _ h
        · cases h
      · cases h
theorem cexec_le {P : Cl} {f g mi : Nat} {me : Me} {c pc : Nat} {ls : Lv} {st : List Value} {s : St} {r : Option Value × St} (hfg : f ≤ g) (h : cexec P f mi me c pc ls st s = some r) : cexec P g mi me c pc ls st s = some r := by
  obtain ⟨d, rfl⟩ := Nat.le.dest hfg
  induction d with
  | zero => exact h
  | succ d ih => exact cexec_succ _ _ _ _ _ _ _ _ _ (ih (Nat.le_add_right _ _))
theorem ccall_le {P : Cl} {f g m' c : Nat} {as : List Value} {s : St} {r : Option Value × St} (hfg : f ≤ g) (h : ccall P f m' c as s = some r) : ccall P g m' c as s = some r := by
  unfold ccall at h ⊢
  split at h
  · split at h
    · rename_i q; rw [if_pos q]; exact cexec_le hfg h
    · cases h
  · cases h
def wpc (P : Cl) (mi : Nat) (me : Me) (c pc : Nat) (ls : Lv) (st : List Value) (s : St) (Q : Option Value → St → Prop) : Prop := ∃ f v s', cexec P f mi me c pc ls st s = some (v, s') ∧ Q v s'
def cal (P : Cl) (m' c : Nat) (as : List Value) (s : St) (Q : Option Value → St → Prop) : Prop := ∃ f v s', ccall P f m' c as s = some (v, s') ∧ Q v s'
def calI (P : Cl) (m' c : Nat) (as : List Value) (s : St) (Q : Int32 → St → Prop) : Prop := cal P m' c as s fun r s' => ∃ v, r = some (.int v) ∧ Q v s'
def calL (P : Cl) (m' c : Nat) (as : List Value) (s : St) (Q : Int64 → St → Prop) : Prop := cal P m' c as s fun r s' => ∃ v, r = some (.long v) ∧ Q v s'
def calV (P : Cl) (m' c : Nat) (as : List Value) (s : St) (Q : St → Prop) : Prop := cal P m' c as s fun r s' => r = none ∧ Q s'
theorem cstep_nat {α : Type} {P : Cl} {mi : Nat} {me : Me} {k : Nat → Nat → Lv → List Value → St → Option α} {i : Instr} {c pc : Nat} {ls : Lv} {st : List Value} {s : St} {x : α}
    (h : cstep P mi me (fun _ _ => none) (fun _ _ _ _ => none) k i c pc ls st s = some x) : ∃ c' pc' ls' st' s', k c' pc' ls' st' s' = some x ∧ ∀ (β : Type) (rt : Option Value → St → Option β) cl (k' : Nat → Nat → Lv → List Value → St → Option β), cstep P mi me rt cl k' i c pc ls st s = k' c' pc' ls' st' s' := by
  unfold cstep at h
  split at h
  · split at h
    · split at h
      · rename_i q; exact ⟨_, _, _, _, _, h, fun β rt cl k' => by simp only [cstep, q]⟩
      · cases h
    · cases h
  · split at h
    · split at h
      · rename_i q; exact ⟨_, _, _, _, _, h, fun β rt cl k' => by simp only [cstep, q]⟩
      · cases h
    · cases h
  · split at h
    · rename_i q; exact ⟨_, _, _, _, _, h, fun β rt cl k' => by simp only [cstep, q]⟩
    · cases h
  · split at h
    · rename_i q; exact ⟨_, _, _, _, _, h, fun β rt cl k' => by simp only [cstep, q]⟩
    · cases h
  · split at h
    · rename_i q; exact ⟨_, _, _, _, _, h, fun β rt cl k' => by simp only [cstep, q]⟩
    · cases h
  · split at h
    · rename_i q; exact ⟨_, _, _, _, _, h, fun β rt cl k' => by simp only [cstep, q]⟩
    · cases h
  · split at h
    · rename_i q; exact ⟨_, _, _, _, _, h, fun β rt cl k' => by simp only [cstep, q]⟩
    · cases h
  · split at h
    · rename_i q; exact ⟨_, _, _, _, _, h, fun β rt cl k' => by simp only [cstep, q]⟩
    · cases h
  · split at h
    · rename_i q; exact ⟨_, _, _, _, _, h, fun β rt cl k' => by simp only [cstep]; rw [if_pos q]⟩
    · cases h
  · split at h
    · rename_i q; exact ⟨_, _, _, _, _, h, fun β rt cl k' => by simp only [cstep, q]⟩
    · cases h
  · split at h
    · rename_i q; exact ⟨_, _, _, _, _, h, fun β rt cl k' => by simp only [cstep, q]⟩
    · cases h
  · split at h
    · split at h
      · rename_i q; exact ⟨_, _, _, _, _, h, fun β rt cl k' => by simp only [cstep]; rw [if_pos q]⟩
      · cases h
    · cases h
  · split at h
    · cases h
    · split at h
      · cases h
      · split at h
        · split at h
          · cases h
          · cases h
        · cases h
  · rename_i n1 n2 n3 n4 n5 n6 n7 n8 n9 n10 n11 n12 n13
    split at h
    · split at h
      · cases h
      · split at h <;> cases h
    · rename_i hr
      split at h
      · rename_i pc' ls' st' hp
        refine ⟨_, _, _, _, _, h, fun β rt cl k' => ?_⟩
        unfold cstep
        split <;> first | (exfalso; first | exact n1 _ rfl | exact n2 _ rfl | exact n3 rfl | exact n4 rfl | exact n5 rfl | exact n6 rfl | exact n7 rfl | exact n8 rfl | exact n9 _ rfl | exact n10 _ rfl | exact n11 _ rfl | exact n12 _ rfl | exact n13 _ rfl) | skip
        rw [if_neg hr, hp]
      · cases h
def csl (P : Cl) (mi : Nat) (me : Me) : Nat → Nat → Nat → Lv → List Value → St → Option (Nat × Nat × Lv × List Value × St)
  | 0, c, pc, ls, st, s => some (c, pc, ls, st, s)
  | n + 1, c, pc, ls, st, s => match fetch me.cd pc with
    | none => none
    | some (i, _) => cstep P mi me (fun _ _ => none) (fun _ _ _ _ => none) (csl P mi me n) i c pc ls st s
theorem wpc_one {P : Cl} {mi : Nat} {me : Me} {c pc c' pc' : Nat} {ls ls' : Lv} {st st' : List Value} {s s' : St} {Q : Option Value → St → Prop} {i : Instr} {n : Nat} (hf : fetch me.cd pc = some (i, n))
    (h : ∀ (rt : Option Value → St → Rs) cl (k : Nat → Nat → Lv → List Value → St → Rs), cstep P mi me rt cl k i c pc ls st s = k c' pc' ls' st' s') (hq : wpc P mi me c' pc' ls' st' s' Q) : wpc P mi me c pc ls st s Q := by
  obtain ⟨f, v, s2, h1, h2⟩ := hq
  refine ⟨f + 1, v, s2, ?_, h2⟩
  rw [cexec, hf]; dsimp only; rw [h]; exact h1
theorem wpc_sl {P : Cl} {mi : Nat} {me : Me} {Q : Option Value → St → Prop} : ∀ {n c pc c' pc' : Nat} {ls ls' : Lv} {st st' : List Value} {s s' : St}, csl P mi me n c pc ls st s = some (c', pc', ls', st', s') → wpc P mi me c' pc' ls' st' s' Q → wpc P mi me c pc ls st s Q := by
  intro n
  induction n with
  | zero => intro c pc c' pc' ls ls' st st' s s' h hq; cases h; exact hq
  | succ n ih =>
    intro c pc c' pc' ls ls' st st' s s' h hq
    simp only [csl] at h
    split at h
    · cases h
    · rename_i i m hf
      obtain ⟨c1, pc1, ls1, st1, s1, h1, h2⟩ := cstep_nat h
      exact wpc_one hf (fun rt cl k => h2 _ rt cl k) (ih h1 hq)
theorem wpc_ret {P : Cl} {mi : Nat} {me : Me} {c pc : Nat} {ls : Lv} {st : List Value} {s : St} {Q : Option Value → St → Prop} {i : Instr} {n : Nat} {v : Option Value} (hf : fetch me.cd pc = some (i, n)) (hr : isRet i = true) (hc : mi = 0 → c = P.al.length) (h : cret me st i = some v) (hq : Q v s) : wpc P mi me c pc ls st s Q := by
  refine ⟨1, v, s, ?_, hq⟩
  rw [cexec, hf]; dsimp only
  have hc' : ¬ (mi = 0 ∧ c ≠ P.al.length) := fun q => q.2 (hc q.1)
  cases i <;> first | (cases hr; done) | (simp only [cstep]; rw [if_pos hr, if_neg hc', h])
theorem wpc_if {P : Cl} {mi : Nat} {me : Me} {c pc a b : Nat} {ls : Lv} {r : List Value} {s : St} {Q : Option Value → St → Prop} {cd : ClassFile.Cond} {o : Int} {n : Nat} {x : Int32} (hf : fetch me.cd pc = some (.ifCond cd o, n)) (ho : 0 ≤ (pc : Int) + o) (ha : jmp pc o = a) (hb : pc + 3 = b)
    (hq : wpc P mi me c (br cd x 0 a b) ls r s Q) : wpc P mi me c pc ls (.int x :: r) s Q := by
  subst ha hb
  refine wpc_one hf (fun rt cl k => ?_) hq
  show (match pstep (.ifCond cd o) pc ls (.int x :: r) with | some (pc', ls', st') => k c pc' ls' st' s | none => none) = _
  simp only [pstep, qstep]; rw [if_pos ho]
theorem wpc_icmp {P : Cl} {mi : Nat} {me : Me} {c pc a b : Nat} {ls : Lv} {r : List Value} {s : St} {Q : Option Value → St → Prop} {cd : ClassFile.Cond} {o : Int} {n : Nat} {x y : Int32} (hf : fetch me.cd pc = some (.if_icmp cd o, n)) (ho : 0 ≤ (pc : Int) + o) (ha : jmp pc o = a) (hb : pc + 3 = b)
    (hq : wpc P mi me c (br cd x y a b) ls r s Q) : wpc P mi me c pc ls (.int y :: .int x :: r) s Q := by
  subst ha hb
  refine wpc_one hf (fun rt cl k => ?_) hq
  show (match pstep (.if_icmp cd o) pc ls (.int y :: .int x :: r) with | some (pc', ls', st') => k c pc' ls' st' s | none => none) = _
  simp only [pstep, qstep]; rw [if_pos ho]
/-- the two roads of a branch -/
theorem wpc_br {P : Cl} {mi : Nat} {me : Me} {c a b : Nat} {ls : Lv} {st : List Value} {s : St} {Q : Option Value → St → Prop} {p : Prop} [Decidable p] (h : (p → wpc P mi me c a ls st s Q) ∧ (¬ p → wpc P mi me c b ls st s Q)) : wpc P mi me c (if p then a else b) ls st s Q := by
  by_cases hp : p
  · rw [if_pos hp]; exact h.1 hp
  · rw [if_neg hp]; exact h.2 hp
theorem wpc_lda {P : Cl} {mi : Nat} {me : Me} {c pc a tt N : Nat} {ls : Lv} {r : List Value} {s : St} {Q : Option Value → St → Prop} {i : Instr} {n : Nat} {j : Int32} (hf : fetch me.cd pc = some (i, n)) (hi : (tt = 0 ∧ i = .iaload) ∨ (tt = 1 ∧ i = .baload) ∨ (tt = 2 ∧ i = .laload)) (ha : P.al[a]? = some (tt, N)) (hac : a < c)
    (hj : inb N j) (hq : wpc P mi me c (pc + 1) ls (elv tt s (a + 1) (ix j) :: r) s Q) : wpc P mi me c pc ls (.int j :: .ref (a + 1) :: r) s Q := by
  have hl : lda P tt c (.int j :: .ref (a + 1) :: r) s = some (elv tt s (a + 1) (ix j) :: r) := by
    simp only [lda, ha]; rw [if_pos ⟨trivial, hac⟩, if_pos hj]; rfl
  refine wpc_one hf (fun rt cl k => ?_) hq
  rcases hi with ⟨rfl, rfl⟩ | ⟨rfl, rfl⟩ | ⟨rfl, rfl⟩ <;> simp only [cstep, hl]
theorem wpc_sta {P : Cl} {mi : Nat} {me : Me} {c pc a tt N : Nat} {ls : Lv} {r : List Value} {s s' : St} {Q : Option Value → St → Prop} {i : Instr} {n : Nat} {j : Int32} {v : Value} (hf : fetch me.cd pc = some (i, n)) (hi : (tt = 0 ∧ i = .iastore ∧ ∃ z, v = .int z ∧ s' = sI s (a + 1) (ix j) z) ∨ (tt = 1 ∧ i = .bastore ∧ ∃ z, v = .int z ∧ s' = sI s (a + 1) (ix j) (z &&& 1)) ∨ (tt = 2 ∧ i = .lastore ∧ ∃ z, v = .long z ∧ s' = sL s (a + 1) (ix j) z)) (ha : P.al[a]? = some (tt, N)) (hac : a < c)
    (hj : inb N j) (hq : wpc P mi me c (pc + 1) ls r s' Q) : wpc P mi me c pc ls (v :: .int j :: .ref (a + 1) :: r) s Q := by
  have hl : sta P tt c (v :: .int j :: .ref (a + 1) :: r) s = some (r, s') := by
    simp only [sta, ha]; rw [if_pos ⟨trivial, hac⟩, if_pos hj]
    rcases hi with ⟨rfl, -, z, rfl, rfl⟩ | ⟨rfl, -, z, rfl, rfl⟩ | ⟨rfl, -, z, rfl, rfl⟩ <;> rfl
  refine wpc_one hf (fun rt cl k => ?_) hq
  rcases hi with ⟨rfl, rfl, -⟩ | ⟨rfl, rfl, -⟩ | ⟨rfl, rfl, -⟩ <;> simp only [cstep, hl]
theorem wpc_call {P : Cl} {mi : Nat} {me me' : Me} {c pc x m' : Nat} {ls : Lv} {st r as : List Value} {s : St} {Q : Option Value → St → Prop} {n : Nat} (hf : fetch me.cd pc = some (.invokevirtual x, n)) (hm : asc P.mx x = some m') (hme : asc P.ms m' = some me') (hst : st.drop me'.na = .ref 0 :: r) (has : (st.take me'.na).reverse = as)
    (hg : m' ≠ 0 ∧ me'.rf + 1 ≤ me.rf ∧ cats r + (me'.ml + 11) + me'.rl ≤ me.rl ∧ nd (st.take me'.na) = true)
    (hq : cal P m' c (.ref 0 :: as) s fun v s' => wpc P mi me c (pc + 3) ls (v.toList ++ r) s' Q) : wpc P mi me c pc ls st s Q := by
  subst has
  obtain ⟨f1, v, s1, h1, f2, v2, s2, h2, h3⟩ := hq
  refine ⟨max f1 f2 + 1, v2, s2, ?_, h3⟩
  have h1' := ccall_le (Nat.le_max_left f1 f2) h1
  have h2' := cexec_le (Nat.le_max_right f1 f2) h2
  rw [cexec, hf]; dsimp only
  simp only [cstep, hm, hme, hst]
  rw [if_pos hg]
  simp only [ccall, hme] at h1'
  rw [h1']
  cases v <;> exact h2'
theorem cal_of {P : Cl} {m' c : Nat} {as : List Value} {s : St} {Q : Option Value → St → Prop} {me : Me} {ls : Lv} (hme : asc P.ms m' = some me) (hl : (layA as).length ≤ me.ml) (hls : lay as me.ml = ls) (h : wpc P m' me c 0 ls [] s Q) : cal P m' c as s Q := by
  subst hls
  obtain ⟨f, v, s', h1, h2⟩ := h
  refine ⟨f, v, s', ?_, h2⟩
  simp only [ccall, hme]; rw [if_pos hl]; exact h1
theorem cal.mono {P : Cl} {m' c : Nat} {as : List Value} {s : St} {Q Q' : Option Value → St → Prop} (h : cal P m' c as s Q) (hq : ∀ v s', Q v s' → Q' v s') : cal P m' c as s Q' := by
  obtain ⟨f, v, s', h1, h2⟩ := h; exact ⟨f, v, s', h1, hq _ _ h2⟩
theorem calI.mono {P : Cl} {m' c : Nat} {as : List Value} {s : St} {Q Q' : Int32 → St → Prop} (h : calI P m' c as s Q) (hq : ∀ v s', Q v s' → Q' v s') : calI P m' c as s Q' := cal.mono h fun _ _ ⟨v, e, q⟩ => ⟨v, e, hq _ _ q⟩
theorem calL.mono {P : Cl} {m' c : Nat} {as : List Value} {s : St} {Q Q' : Int64 → St → Prop} (h : calL P m' c as s Q) (hq : ∀ v s', Q v s' → Q' v s') : calL P m' c as s Q' := cal.mono h fun _ _ ⟨v, e, q⟩ => ⟨v, e, hq _ _ q⟩
theorem calV.mono {P : Cl} {m' c : Nat} {as : List Value} {s : St} {Q Q' : St → Prop} (h : calV P m' c as s Q) (hq : ∀ s', Q s' → Q' s') : calV P m' c as s Q' := cal.mono h fun _ _ ⟨e, q⟩ => ⟨e, hq _ q⟩
theorem wpc.mono {P : Cl} {mi : Nat} {me : Me} {c pc : Nat} {ls : Lv} {st : List Value} {s : St} {Q Q' : Option Value → St → Prop} (h : wpc P mi me c pc ls st s Q) (hq : ∀ v s', Q v s' → Q' v s') : wpc P mi me c pc ls st s Q' := by
  obtain ⟨f, v, s', h1, h2⟩ := h; exact ⟨f, v, s', h1, hq _ _ h2⟩
theorem wpc_callI {P : Cl} {mi : Nat} {me me' : Me} {c pc x m' : Nat} {ls : Lv} {st r as : List Value} {s : St} {Q : Option Value → St → Prop} {n : Nat} (hf : fetch me.cd pc = some (.invokevirtual x, n)) (hm : asc P.mx x = some m') (hme : asc P.ms m' = some me') (hst : st.drop me'.na = .ref 0 :: r) (has : (st.take me'.na).reverse = as)
    (hg : m' ≠ 0 ∧ me'.rf + 1 ≤ me.rf ∧ cats r + (me'.ml + 11) + me'.rl ≤ me.rl ∧ nd (st.take me'.na) = true)
    (hq : calI P m' c (.ref 0 :: as) s fun v s' => wpc P mi me c (pc + 3) ls (.int v :: r) s' Q) : wpc P mi me c pc ls st s Q :=
  wpc_call hf hm hme hst has hg (cal.mono hq fun _ _ ⟨v, e, q⟩ => by subst e; exact q)
theorem wpc_callL {P : Cl} {mi : Nat} {me me' : Me} {c pc x m' : Nat} {ls : Lv} {st r as : List Value} {s : St} {Q : Option Value → St → Prop} {n : Nat} (hf : fetch me.cd pc = some (.invokevirtual x, n)) (hm : asc P.mx x = some m') (hme : asc P.ms m' = some me') (hst : st.drop me'.na = .ref 0 :: r) (has : (st.take me'.na).reverse = as)
    (hg : m' ≠ 0 ∧ me'.rf + 1 ≤ me.rf ∧ cats r + (me'.ml + 11) + me'.rl ≤ me.rl ∧ nd (st.take me'.na) = true)
    (hq : calL P m' c (.ref 0 :: as) s fun v s' => wpc P mi me c (pc + 3) ls (.long v :: r) s' Q) : wpc P mi me c pc ls st s Q :=
  wpc_call hf hm hme hst has hg (cal.mono hq fun _ _ ⟨v, e, q⟩ => by subst e; exact q)
theorem wpc_callV {P : Cl} {mi : Nat} {me me' : Me} {c pc x m' : Nat} {ls : Lv} {st r as : List Value} {s : St} {Q : Option Value → St → Prop} {n : Nat} (hf : fetch me.cd pc = some (.invokevirtual x, n)) (hm : asc P.mx x = some m') (hme : asc P.ms m' = some me') (hst : st.drop me'.na = .ref 0 :: r) (has : (st.take me'.na).reverse = as)
    (hg : m' ≠ 0 ∧ me'.rf + 1 ≤ me.rf ∧ cats r + (me'.ml + 11) + me'.rl ≤ me.rl ∧ nd (st.take me'.na) = true)
    (hq : calV P m' c (.ref 0 :: as) s fun s' => wpc P mi me c (pc + 3) ls r s' Q) : wpc P mi me c pc ls st s Q :=
  wpc_call hf hm hme hst has hg (cal.mono hq fun _ _ ⟨e, q⟩ => by subst e; exact q)
/-- both roads of a value -/
theorem wp_val {p : Prop} [Decidable p] {α : Sort _} {F : α → Prop} {x y : α} (h : F (if p then x else y)) : (p → F x) ∧ (¬ p → F y) := ⟨fun q => by rw [if_pos q] at h; exact h, fun q => by rw [if_neg q] at h; exact h⟩
end Jvm.LM

namespace Jvm.LM
open Sem ClassFile Op Lib Jvm.Stand Jvm.Free Jvm.LawKit Jvm.RoadKit
/-! variables that are not read any more -/
def lle (a b : Lv) : Prop := a.length = b.length ∧ ∀ (k : Nat) (v : Value), a[k]? = some (some v) → b[k]? = some (some v)
def lle' : Lv → Lv → Prop
  | [], [] => True
  | none :: a, _ :: b => lle' a b
  | some v :: a, w :: b => w = some v ∧ lle' a b
  | _, _ => False
theorem lle_of {a b : Lv} (h : lle' a b) : lle a b := by
  induction a generalizing b with
  | nil => cases b with
    | nil => exact ⟨rfl, fun k v hk => hk⟩
    | cons y b => cases h
  | cons x a ih =>
    cases b with
    | nil => cases x <;> cases h
    | cons y b =>
      cases x with
      | none =>
        obtain ⟨h1, h2⟩ := ih (b := b) h
        refine ⟨by simp [h1], fun k v hk => ?_⟩
        cases k with
        | zero => simp at hk
        | succ k => simp at hk ⊢; exact h2 k v hk
      | some x =>
        obtain ⟨e, h⟩ := h
        obtain ⟨h1, h2⟩ := ih (b := b) h
        subst e
        refine ⟨by simp [h1], fun k v hk => ?_⟩
        cases k with
        | zero => exact hk
        | succ k => simp at hk ⊢; exact h2 k v hk
theorem clr_lle {a b : Lv} (h : lle a b) (i : Nat) : (clr a i).length = (clr b i).length ∧ ∀ k v, k ≠ i → (clr a i)[k]? = some (some v) → (clr b i)[k]? = some (some v) := by
  refine ⟨by rw [clr_len, clr_len]; exact h.1, fun k v hk hv => ?_⟩
  obtain ⟨q1, q2⟩ := clr_get hv
  have q3 := h.2 _ _ q1
  cases i with
  | zero => exact q3
  | succ j =>
    simp only [clr]
    split
    · rename_i x e
      rw [List.getElem?_set]
      split
      · rename_i e2; subst e2
        rw [q3] at e; cases e
        exact absurd rfl (q2 rfl)
      · exact q3
    · rename_i x e
      rw [List.getElem?_set]
      split
      · rename_i e2; subst e2
        rw [q3] at e; cases e
        exact absurd rfl (q2 rfl)
      · exact q3
    · exact q3
theorem stl_lle {a b a' : Lv} (h : lle a b) {i : Nat} {v : Value} (hs : stl a i v = some a') : ∃ b', stl b i v = some b' ∧ lle a' b' := by
  obtain ⟨c1, c2⟩ := clr_lle h i
  have hl := h.1
  have one : ∀ w : Value, ∀ k u, ((clr a i).set i (some w))[k]? = some (some u) → ((clr b i).set i (some w))[k]? = some (some u) := fun w k u hk => by
    rw [List.getElem?_set] at hk ⊢
    split
    · rename_i e; rw [if_pos e] at hk; rw [← c1]; exact hk
    · rename_i e; rw [if_neg e] at hk; exact c2 k u (fun q => e q.symm) hk
  unfold stl at hs ⊢
  split at hs
  · rename_i x
    split at hs
    · rename_i q
      cases hs
      refine ⟨((clr b i).set i (some (.long x))).set (i + 1) none, if_pos (by rw [← hl]; exact q), by simp [c1], fun k u hk => ?_⟩
      rw [List.getElem?_set] at hk ⊢
      split
      · rename_i e; rw [if_pos e] at hk; split at hk <;> simp at hk
      · rename_i e; rw [if_neg e] at hk; exact one _ k u hk
    · cases hs
  · split at hs
    · rename_i q
      cases hs
      exact ⟨(clr b i).set i (some v), if_pos (by rw [← hl]; exact q), by simp [c1], fun k u hk => one _ k u hk⟩
    · cases hs
theorem pstep_lle {i : Instr} {pc pc' : Nat} {ls l1 ls' : Lv} {st st' : List Value} (h : pstep i pc ls st = some (pc', l1, st')) (hl : lle ls ls') : ∃ l1', pstep i pc ls' st = some (pc', l1', st') ∧ lle l1 l1' := by
  unfold pstep at h ⊢
  split at h
  all_goals (try dsimp only)
  iterate 6
    · split at h
      · rename_i e; cases h; rw [hl.2 _ _ e]; exact ⟨_, rfl, hl⟩
      · cases h
  iterate 6
    · split at h
      · split at h
        · rename_i e; cases h
          obtain ⟨b', q1, q2⟩ := stl_lle hl e
          rw [q1]; exact ⟨_, rfl, q2⟩
        · cases h
      · cases h
  · split at h
    · rename_i e0
      split at h
      · rename_i e; cases h
        obtain ⟨b', q1, q2⟩ := stl_lle hl e
        rw [hl.2 _ _ e0]; dsimp only; rw [q1]; exact ⟨_, rfl, q2⟩
      · cases h
    · cases h
  · split at h
    · cases h; exact ⟨_, rfl, hl⟩
    · cases h
theorem cstep_lle {P : Cl} {mi : Nat} {me : Me} {rt : Option Value → St → Rs} {cl : Nat → Nat → List Value → St → Rs} {k : Nat → Nat → Lv → List Value → St → Rs} {i : Instr} {c pc : Nat} {ls ls' : Lv} {st : List Value} {s : St} {r : Option Value × St} (hl : lle ls ls')
    (hk : ∀ c pc ls ls' st s, lle ls ls' → k c pc ls st s = some r → k c pc ls' st s = some r) (h : cstep P mi me rt cl k i c pc ls st s = some r) : cstep P mi me rt cl k i c pc ls' st s = some r := by
  unfold cstep at h ⊢
  split at h
  all_goals (try dsimp only)
  · split at h
    · split at h
      · exact hk _ _ _ _ _ _ hl h
      · cases h
    · cases h
  · split at h
    · split at h
      · exact hk _ _ _ _ _ _ hl h
      · cases h
    · cases h
  iterate 6
    · split at h
      · exact hk _ _ _ _ _ _ hl h
      · cases h
  · split at h
    · rename_i q; rw [if_pos q]; exact hk _ _ _ _ _ _ hl h
    · cases h
  iterate 2
    · split at h
      · exact hk _ _ _ _ _ _ hl h
      · cases h
  · split at h
    · split at h
      · rename_i q; rw [if_pos q]; exact hk _ _ _ _ _ _ hl h
      · cases h
    · cases h
  · split at h
    · cases h
    · split at h
      · cases h
      · split at h
        · split at h
          · rename_i q
            rw [if_pos q]
            split at h
            · exact hk _ _ _ _ _ _ hl h
            · exact hk _ _ _ _ _ _ hl h
            · cases h
          · cases h
        · cases h
  · split at h
    · rename_i q; rw [if_pos q]; exact h
    · rename_i q; rw [if_neg q]
      split at h
      · rename_i e
        obtain ⟨l1', q1, q2⟩ := pstep_lle e hl
        rw [q1]; exact hk _ _ _ _ _ _ q2 h
      · cases h
theorem cexec_lle {P : Cl} : ∀ f mi me c pc ls ls' st s r, lle ls ls' → cexec P f mi me c pc ls st s = some r → cexec P f mi me c pc ls' st s = some r := by
  intro f
  induction f with
  | zero => intro mi me c pc ls ls' st s r _ h; cases h
  | succ f ih =>
    intro mi me c pc ls ls' st s r hl h
    rw [cexec] at h ⊢
    split at h
    · cases h
    · exact cstep_lle hl (fun c pc ls ls' st s hl h => ih _ _ _ _ _ _ _ _ _ hl h) h
theorem wpc_lle {P : Cl} {mi : Nat} {me : Me} {c pc : Nat} {ls ls' : Lv} {st : List Value} {s : St} {Q : Option Value → St → Prop} (hl : lle' ls ls') (h : wpc P mi me c pc ls st s Q) : wpc P mi me c pc ls' st s Q := by
  obtain ⟨f, v, s', h1, h2⟩ := h; exact ⟨f, v, s', cexec_lle _ _ _ _ _ _ _ _ _ _ (lle_of hl) h1, h2⟩
end Jvm.LM

namespace Jvm.LM
open Sem ClassFile Op Lib Jvm.Stand Jvm.Free Jvm.LawKit Jvm.RoadKit
theorem lstep_mono {α : Type} {P : Cl} {Q : Lw} {sc : Sc} {mi : Nat} {me : Me} {rt : Option Value → Wd → Option α} {cc cc' : Nat → Nat → List Value → St → Rs} {cl cl' : Nat → List Value → Wd → Rw} {k k' : Nat → Lv → List Value → Wd → Option α} {i : Instr} {pc : Nat} {ls : Lv} {st : List Value} {w : Wd} {r : α}
    (hcc : ∀ m c as s r, cc m c as s = some r → cc' m c as s = some r) (hcl : ∀ m as s r, cl m as s = some r → cl' m as s = some r) (hk : ∀ pc ls st s r, k pc ls st s = some r → k' pc ls st s = some r) (h : lstep P Q sc mi me rt cc cl k i pc ls st w = some r) : lstep P Q sc mi me rt cc' cl' k' i pc ls st w = some r := by
  unfold lstep at h ⊢
  split at h
  all_goals (try dsimp only)
  · split at h
    · split at h
      · rename_i q; rw [if_pos q]; exact hk _ _ _ _ _ h
      · cases h
    · cases h
  · split at h
    · exact hk _ _ _ _ _ h
    · cases h
  · split at h
    · exact hk _ _ _ _ _ h
    · cases h
  · split at h
    · exact hk _ _ _ _ _ h
    · cases h
  · split at h
    · rename_i q; rw [if_pos q]; exact hk _ _ _ _ _ h
    · cases h
  · split at h
    · cases h
    · split at h
      · split at h
        · rename_i q
          rw [if_pos q]
          split at h
          · rename_i s1 hc; rw [hcc _ _ _ _ _ hc]; exact hk _ _ _ _ _ h
          · cases h
        · cases h
      · cases h
  · split at h
    · cases h
    · split at h
      · cases h
      · split at h
        · split at h
          · rename_i q
            rw [if_pos q]
            split at h
            · rename_i s1 hc; rw [hcc _ _ _ _ _ hc]; exact hk _ _ _ _ _ h
            · rename_i v1 s1 hc; rw [hcc _ _ _ _ _ hc]; exact hk _ _ _ _ _ h
            · cases h
          · cases h
        · cases h
  · split at h
    · cases h
    · split at h
      · cases h
      · split at h
        · rename_i q
          rw [if_pos q]
          split at h
          · rename_i s1 hc; rw [hcl _ _ _ _ hc]; exact hk _ _ _ _ _ h
          · rename_i v1 s1 hc; rw [hcl _ _ _ _ hc]; exact hk _ _ _ _ _ h
          · cases h
        · cases h
  · split at h
    · rename_i q; rw [if_pos q]; exact h
    · rename_i q; rw [if_neg q]
      split at h
      · exact hk _ _ _ _ _ h
      · cases h
theorem lexec_succ {P : Cl} {Q : Lw} {sc : Sc} : ∀ f mi me pc ls st w r, lexec P Q sc f mi me pc ls st w = some r → lexec P Q sc (f + 1) mi me pc ls st w = some r := by
  intro f
  induction f with
  | zero => intro mi me pc ls st s r h; cases h
  | succ f ih =>
    intro mi me pc ls st s r h
    rw [lexec] at h ⊢
    split at h
    · cases h
    · refine lstep_mono (fun m c as s r h => ccall_le (Nat.le_succ _) h) (fun m as s r h => ?_) (fun pc ls st s r h => ih _ _ _ _ _ _ _ h) h
      split at h
      · split at h
        · rename_i q; rw [if_pos q]; exact ih _ _ _ _ _ _ _ h
        · cases h
      · cases h
theorem lexec_le {P : Cl} {Q : Lw} {sc : Sc} {f g mi : Nat} {me : Me} {pc : Nat} {ls : Lv} {st : List Value} {w : Wd} {r : Option Value × Wd} (hfg : f ≤ g) (h : lexec P Q sc f mi me pc ls st w = some r) : lexec P Q sc g mi me pc ls st w = some r := by
  obtain ⟨d, rfl⟩ := Nat.le.dest hfg
  induction d with
  | zero => exact h
  | succ d ih => exact lexec_succ _ _ _ _ _ _ _ _ (ih (Nat.le_add_right _ _))
theorem lcall_le {P : Cl} {Q : Lw} {sc : Sc} {f g m' : Nat} {as : List Value} {w : Wd} {r : Option Value × Wd} (hfg : f ≤ g) (h : lcall P Q sc f m' as w = some r) : lcall P Q sc g m' as w = some r := by
  unfold lcall at h ⊢
  split at h
  · split at h
    · rename_i q; rw [if_pos q]; exact lexec_le hfg h
    · cases h
  · cases h
def wpl (P : Cl) (Q : Lw) (sc : Sc) (mi : Nat) (me : Me) (pc : Nat) (ls : Lv) (st : List Value) (w : Wd) (R : Option Value → Wd → Prop) : Prop := ∃ f v w', lexec P Q sc f mi me pc ls st w = some (v, w') ∧ R v w'
def lal (P : Cl) (Q : Lw) (sc : Sc) (m' : Nat) (as : List Value) (w : Wd) (R : Option Value → Wd → Prop) : Prop := ∃ f v w', lcall P Q sc f m' as w = some (v, w') ∧ R v w'
def lalI (P : Cl) (Q : Lw) (sc : Sc) (m' : Nat) (as : List Value) (w : Wd) (R : Int32 → Wd → Prop) : Prop := lal P Q sc m' as w fun r w' => ∃ v, r = some (.int v) ∧ R v w'
def lalL (P : Cl) (Q : Lw) (sc : Sc) (m' : Nat) (as : List Value) (w : Wd) (R : Int64 → Wd → Prop) : Prop := lal P Q sc m' as w fun r w' => ∃ v, r = some (.long v) ∧ R v w'
def lalV (P : Cl) (Q : Lw) (sc : Sc) (m' : Nat) (as : List Value) (w : Wd) (R : Wd → Prop) : Prop := lal P Q sc m' as w fun r w' => r = none ∧ R w'
theorem lal.mono {P : Cl} {Q : Lw} {sc : Sc} {m' : Nat} {as : List Value} {w : Wd} {R R' : Option Value → Wd → Prop} (h : lal P Q sc m' as w R) (hq : ∀ v s', R v s' → R' v s') : lal P Q sc m' as w R' := by
  obtain ⟨f, v, s', h1, h2⟩ := h; exact ⟨f, v, s', h1, hq _ _ h2⟩
theorem lalI.mono {P : Cl} {Q : Lw} {sc : Sc} {m' : Nat} {as : List Value} {w : Wd} {R R' : Int32 → Wd → Prop} (h : lalI P Q sc m' as w R) (hq : ∀ v s', R v s' → R' v s') : lalI P Q sc m' as w R' := lal.mono h fun _ _ ⟨v, e, q⟩ => ⟨v, e, hq _ _ q⟩
theorem lalL.mono {P : Cl} {Q : Lw} {sc : Sc} {m' : Nat} {as : List Value} {w : Wd} {R R' : Int64 → Wd → Prop} (h : lalL P Q sc m' as w R) (hq : ∀ v s', R v s' → R' v s') : lalL P Q sc m' as w R' := lal.mono h fun _ _ ⟨v, e, q⟩ => ⟨v, e, hq _ _ q⟩
theorem lalV.mono {P : Cl} {Q : Lw} {sc : Sc} {m' : Nat} {as : List Value} {w : Wd} {R R' : Wd → Prop} (h : lalV P Q sc m' as w R) (hq : ∀ s', R s' → R' s') : lalV P Q sc m' as w R' := lal.mono h fun _ _ ⟨e, q⟩ => ⟨e, hq _ q⟩
theorem wpl.mono {P : Cl} {Q : Lw} {sc : Sc} {mi : Nat} {me : Me} {pc : Nat} {ls : Lv} {st : List Value} {w : Wd} {R R' : Option Value → Wd → Prop} (h : wpl P Q sc mi me pc ls st w R) (hq : ∀ v s', R v s' → R' v s') : wpl P Q sc mi me pc ls st w R' := by
  obtain ⟨f, v, s', h1, h2⟩ := h; exact ⟨f, v, s', h1, hq _ _ h2⟩
theorem wpl_one {P : Cl} {Q : Lw} {sc : Sc} {mi : Nat} {me : Me} {pc pc' : Nat} {ls ls' : Lv} {st st' : List Value} {w w' : Wd} {R : Option Value → Wd → Prop} {i : Instr} {n : Nat} (hf : fetch me.cd pc = some (i, n))
    (h : ∀ (rt : Option Value → Wd → Rw) cc cl (k : Nat → Lv → List Value → Wd → Rw), lstep P Q sc mi me rt cc cl k i pc ls st w = k pc' ls' st' w') (hq : wpl P Q sc mi me pc' ls' st' w' R) : wpl P Q sc mi me pc ls st w R := by
  obtain ⟨f, v, s2, h1, h2⟩ := hq
  refine ⟨f + 1, v, s2, ?_, h2⟩
  rw [lexec, hf]; dsimp only; rw [h]; exact h1
/-- plain steps: nothing of the heap, no call -/
def isPl : Instr → Bool
  | .iaload => false | .arraylength => false | .ldc _ => false | .ldc2_w _ => false | .new _ => false | .invokespecial _ => false | .invokevirtual _ => false | .invokestatic _ => false
  | .ireturn => false | .lreturn => false | .return_ => false
  | _ => true
theorem lstep_pl {α : Type} {P : Cl} {Q : Lw} {sc : Sc} {mi : Nat} {me : Me} {rt : Option Value → Wd → Option α} {cc : Nat → Nat → List Value → St → Rs} {cl : Nat → List Value → Wd → Rw} {k : Nat → Lv → List Value → Wd → Option α} {i : Instr} {pc : Nat} {ls : Lv} {st : List Value} {w : Wd} (hi : isPl i = true) :
    lstep P Q sc mi me rt cc cl k i pc ls st w = match pstep i pc ls st with | some (pc', ls', st') => k pc' ls' st' w | none => none := by
  cases i <;> first | (cases hi; done) | rfl
def psl (kx : List (Nat × Value)) (cd : Cd) : Nat → Nat → Lv → List Value → Option (Nat × Lv × List Value)
  | 0, pc, ls, st => some (pc, ls, st)
  | n + 1, pc, ls, st => match fetch cd pc with
    | none => none
    | some (i, _) => match i with
      | .ldc x => (match asc kx x with | some (.int z) => psl kx cd n (pc + 2) ls (.int z :: st) | _ => none)
      | .ldc2_w x => (match asc kx x with | some (.long z) => psl kx cd n (pc + 3) ls (.long z :: st) | _ => none)
      | i => if isPl i = true then (match pstep i pc ls st with | some (pc', ls', st') => psl kx cd n pc' ls' st' | none => none) else none
theorem wpl_sl {P : Cl} {Q : Lw} {sc : Sc} {mi : Nat} {me : Me} {w : Wd} {R : Option Value → Wd → Prop} : ∀ {n pc pc' : Nat} {ls ls' : Lv} {st st' : List Value}, psl Q.kx me.cd n pc ls st = some (pc', ls', st') → wpl P Q sc mi me pc' ls' st' w R → wpl P Q sc mi me pc ls st w R := by
  intro n
  induction n with
  | zero => intro pc pc' ls ls' st st' h hq; cases h; exact hq
  | succ n ih =>
    intro pc pc' ls ls' st st' h hq
    simp only [psl] at h
    split at h
    · cases h
    · rename_i i m hf
      split at h
      · split at h
        · rename_i z e
          exact wpl_one hf (fun rt cc cl k => by simp only [lstep, e]) (ih h hq)
        · cases h
      · split at h
        · rename_i z e
          exact wpl_one hf (fun rt cc cl k => by simp only [lstep, e]) (ih h hq)
        · cases h
      · split at h
        · rename_i hi
          split at h
          · rename_i pc1 ls1 st1 e
            exact wpl_one hf (fun rt cc cl k => by rw [lstep_pl hi, e]) (ih h hq)
          · cases h
        · cases h
theorem wpl_ret {P : Cl} {Q : Lw} {sc : Sc} {mi : Nat} {me : Me} {pc : Nat} {ls : Lv} {st : List Value} {w : Wd} {R : Option Value → Wd → Prop} {i : Instr} {n : Nat} {v : Option Value} (hf : fetch me.cd pc = some (i, n)) (hr : isRet i = true) (h : cret me st i = some v) (hq : R v w) : wpl P Q sc mi me pc ls st w R := by
  refine ⟨1, v, w, ?_, hq⟩
  rw [lexec, hf]; dsimp only
  cases i <;> first | (cases hr; done) | (simp only [lstep]; rw [if_pos hr, h])
theorem wpl_if {P : Cl} {Q : Lw} {sc : Sc} {mi : Nat} {me : Me} {pc a b : Nat} {ls : Lv} {r : List Value} {w : Wd} {R : Option Value → Wd → Prop} {cd : ClassFile.Cond} {o : Int} {n : Nat} {x : Int32} (hf : fetch me.cd pc = some (.ifCond cd o, n)) (ho : 0 ≤ (pc : Int) + o) (ha : jmp pc o = a) (hb : pc + 3 = b)
    (hq : wpl P Q sc mi me (br cd x 0 a b) ls r w R) : wpl P Q sc mi me pc ls (.int x :: r) w R := by
  subst ha hb
  refine wpl_one hf (fun rt cc cl k => ?_) hq
  rw [lstep_pl rfl]
  simp only [pstep, qstep]; rw [if_pos ho]
theorem wpl_icmp {P : Cl} {Q : Lw} {sc : Sc} {mi : Nat} {me : Me} {pc a b : Nat} {ls : Lv} {r : List Value} {w : Wd} {R : Option Value → Wd → Prop} {cd : ClassFile.Cond} {o : Int} {n : Nat} {x y : Int32} (hf : fetch me.cd pc = some (.if_icmp cd o, n)) (ho : 0 ≤ (pc : Int) + o) (ha : jmp pc o = a) (hb : pc + 3 = b)
    (hq : wpl P Q sc mi me (br cd x y a b) ls r w R) : wpl P Q sc mi me pc ls (.int y :: .int x :: r) w R := by
  subst ha hb
  refine wpl_one hf (fun rt cc cl k => ?_) hq
  rw [lstep_pl rfl]
  simp only [pstep, qstep]; rw [if_pos ho]
theorem wpl_br {P : Cl} {Q : Lw} {sc : Sc} {mi : Nat} {me : Me} {a b : Nat} {ls : Lv} {st : List Value} {w : Wd} {R : Option Value → Wd → Prop} {p : Prop} [Decidable p] (h : (p → wpl P Q sc mi me a ls st w R) ∧ (¬ p → wpl P Q sc mi me b ls st w R)) : wpl P Q sc mi me (if p then a else b) ls st w R := by
  by_cases hp : p
  · rw [if_pos hp]; exact h.1 hp
  · rw [if_neg hp]; exact h.2 hp
theorem wpl_lda {P : Cl} {Q : Lw} {N : Nat} {g : Nat → Int32} {mi : Nat} {me : Me} {pc : Nat} {ls : Lv} {r : List Value} {w : Wd} {R : Option Value → Wd → Prop} {n : Nat} {j : Int32} (hf : fetch me.cd pc = some (.iaload, n)) (hj : inb N j) (hq : wpl P Q (some (N, g)) mi me (pc + 1) ls (.int (g (ix j)) :: r) w R) : wpl P Q (some (N, g)) mi me pc ls (.int j :: .ref 0 :: r) w R := by
  refine wpl_one hf (fun rt cc cl k => ?_) hq
  simp only [lstep]; rw [if_pos hj]
theorem wpl_len {P : Cl} {Q : Lw} {N : Nat} {g : Nat → Int32} {mi : Nat} {me : Me} {pc : Nat} {ls : Lv} {r : List Value} {w : Wd} {R : Option Value → Wd → Prop} {n : Nat} (hf : fetch me.cd pc = some (.arraylength, n)) (hq : wpl P Q (some (N, g)) mi me (pc + 1) ls (.int (Int32.ofNat N) :: r) w R) : wpl P Q (some (N, g)) mi me pc ls (.ref 0 :: r) w R := by
  refine wpl_one hf (fun rt cc cl k => ?_) hq
  simp only [lstep]
theorem wpl_new {P : Cl} {Q : Lw} {sc : Sc} {me : Me} {pc cnt : Nat} {ls : Lv} {st : List Value} {os : Nat → St} {R : Option Value → Wd → Prop} {n x : Nat} (hf : fetch me.cd pc = some (.new x, n)) (hx : x = Q.cx) (h1 : (cnt + 1) * (P.al.length + 1) ≤ Q.rc) (h2 : (cnt + 1) * (Q.nf + zs P.al P.al.length) ≤ Q.rs)
    (hq : wpl P Q sc 0 me (pc + 3) ls (.ref (cnt + 1) :: st) (uo os cnt s0, cnt, true) R) : wpl P Q sc 0 me pc ls st (os, cnt, false) R := by
  refine wpl_one hf (fun rt cc cl k => ?_) hq
  simp only [lstep]; rw [if_pos ⟨trivial, hx, trivial, h1, h2⟩]
theorem wpl_ctor {P : Cl} {Q : Lw} {sc : Sc} {me me' : Me} {pc cnt : Nat} {ls : Lv} {st r as : List Value} {os : Nat → St} {R : Option Value → Wd → Prop} {n x : Nat} (hf : fetch me.cd pc = some (.invokespecial x, n)) (hx : x = Q.ci) (hme : asc P.ms 0 = some me') (hst : st.drop me'.na = .ref (cnt + 1) :: r) (has : (st.take me'.na).reverse = as)
    (hg : me'.rf + 1 ≤ me.rf ∧ cats r + (me'.ml + 11) + me'.rl ≤ me.rl ∧ nr (st.take me'.na) = true ∧ (cnt + 1) * (P.al.length + 1) ≤ Q.rc ∧ (cnt + 1) * (Q.nf + zs P.al P.al.length) ≤ Q.rs)
    (hq : calV P 0 0 (.ref 0 :: as) (os cnt) fun s' => wpl P Q sc 0 me (pc + 3) ls r (uo os cnt s', cnt + 1, false) R) : wpl P Q sc 0 me pc ls st (os, cnt, true) R := by
  subst has
  obtain ⟨f1, v, s1, h1, rfl, f2, v2, s2, h2, h3⟩ := hq
  refine ⟨max f1 f2 + 1, v2, s2, ?_, h3⟩
  have h1' := ccall_le (Nat.le_max_left f1 f2) h1
  have h2' := lexec_le (Nat.le_max_right f1 f2) h2
  rw [lexec, hf]; dsimp only
  simp only [lstep, hme, hst]
  rw [if_pos ⟨hx, trivial, trivial, trivial, hg⟩, h1']
  exact h2'
theorem wpl_call {P : Cl} {Q : Lw} {sc : Sc} {mi : Nat} {me me' : Me} {pc x m' o : Nat} {ls : Lv} {st r as : List Value} {w : Wd} {R : Option Value → Wd → Prop} {n : Nat} (hf : fetch me.cd pc = some (.invokevirtual x, n)) (hm : asc Q.vx x = some m') (hme : asc P.ms m' = some me') (hst : st.drop me'.na = .ref (o + 1) :: r) (has : (st.take me'.na).reverse = as)
    (hg : m' ≠ 0 ∧ o < w.2.1 ∧ me'.rf + 1 ≤ me.rf ∧ cats r + (me'.ml + 11) + me'.rl ≤ me.rl ∧ nr (st.take me'.na) = true)
    (hq : cal P m' P.al.length (.ref 0 :: as) (w.1 o) fun v s' => wpl P Q sc mi me (pc + 3) ls (v.toList ++ r) (uo w.1 o s', w.2.1, w.2.2) R) : wpl P Q sc mi me pc ls st w R := by
  subst has
  obtain ⟨f1, v, s1, h1, f2, v2, s2, h2, h3⟩ := hq
  refine ⟨max f1 f2 + 1, v2, s2, ?_, h3⟩
  have h1' := ccall_le (Nat.le_max_left f1 f2) h1
  have h2' := lexec_le (Nat.le_max_right f1 f2) h2
  rw [lexec, hf]; dsimp only
  simp only [lstep, hm, hme, hst]
  rw [if_pos hg, h1']
  cases v <;> exact h2'
theorem wpl_stat {P : Cl} {Q : Lw} {sc : Sc} {mi : Nat} {me me' : Me} {pc x m' : Nat} {ls : Lv} {st r as : List Value} {w : Wd} {R : Option Value → Wd → Prop} {n : Nat} (hf : fetch me.cd pc = some (.invokestatic x, n)) (hm : asc Q.sx x = some m') (hme : asc Q.ms m' = some me') (hst : st.drop me'.na = r) (has : (st.take me'.na).reverse = as)
    (hg : m' ≠ 0 ∧ me'.na ≤ st.length ∧ me'.rf + 1 ≤ me.rf ∧ cats r + (me'.ml + 11) + me'.rl ≤ me.rl ∧ nd (st.take me'.na) = true)
    (hq : lal P Q sc m' as w fun v w' => wpl P Q sc mi me (pc + 3) ls (v.toList ++ r) w' R) : wpl P Q sc mi me pc ls st w R := by
  subst has hst
  obtain ⟨f1, v, s1, h1, f2, v2, s2, h2, h3⟩ := hq
  refine ⟨max f1 f2 + 1, v2, s2, ?_, h3⟩
  have h1' := lcall_le (Nat.le_max_left f1 f2) h1
  have h2' := lexec_le (Nat.le_max_right f1 f2) h2
  rw [lexec, hf]; dsimp only
  simp only [lstep, hm, hme]
  rw [if_pos hg]
  simp only [lcall, hme] at h1'
  rw [h1']
  cases v <;> exact h2'
theorem lal_of {P : Cl} {Q : Lw} {sc : Sc} {m' : Nat} {as : List Value} {w : Wd} {R : Option Value → Wd → Prop} {me : Me} {ls : Lv} (hme : asc Q.ms m' = some me) (hl : (layA as).length ≤ me.ml) (hls : lay as me.ml = ls) (h : wpl P Q sc m' me 0 ls [] w R) : lal P Q sc m' as w R := by
  subst hls
  obtain ⟨f, v, s', h1, h2⟩ := h
  refine ⟨f, v, s', ?_, h2⟩
  simp only [lcall, hme]; rw [if_pos hl]; exact h1
theorem lstep_lle {P : Cl} {Q : Lw} {sc : Sc} {mi : Nat} {me : Me} {rt : Option Value → Wd → Rw} {cc : Nat → Nat → List Value → St → Rs} {cl : Nat → List Value → Wd → Rw} {k : Nat → Lv → List Value → Wd → Rw} {i : Instr} {pc : Nat} {ls ls' : Lv} {st : List Value} {w : Wd} {r : Option Value × Wd} (hl : lle ls ls')
    (hk : ∀ pc ls ls' st s, lle ls ls' → k pc ls st s = some r → k pc ls' st s = some r) (h : lstep P Q sc mi me rt cc cl k i pc ls st w = some r) : lstep P Q sc mi me rt cc cl k i pc ls' st w = some r := by
  unfold lstep at h ⊢
  split at h
  all_goals (try dsimp only)
  · split at h
    · split at h
      · rename_i q; rw [if_pos q]; exact hk _ _ _ _ _ hl h
      · cases h
    · cases h
  iterate 3
    · split at h
      · exact hk _ _ _ _ _ hl h
      · cases h
  · split at h
    · rename_i q; rw [if_pos q]; exact hk _ _ _ _ _ hl h
    · cases h
  · split at h
    · cases h
    · split at h
      · split at h
        · rename_i q
          rw [if_pos q]
          split at h
          · exact hk _ _ _ _ _ hl h
          · cases h
        · cases h
      · cases h
  · split at h
    · cases h
    · split at h
      · cases h
      · split at h
        · split at h
          · rename_i q
            rw [if_pos q]
            split at h
            · exact hk _ _ _ _ _ hl h
            · exact hk _ _ _ _ _ hl h
            · cases h
          · cases h
        · cases h
  · split at h
    · cases h
    · split at h
      · cases h
      · split at h
        · rename_i q
          rw [if_pos q]
          split at h
          · exact hk _ _ _ _ _ hl h
          · exact hk _ _ _ _ _ hl h
          · cases h
        · cases h
  · split at h
    · rename_i q; rw [if_pos q]; exact h
    · rename_i q; rw [if_neg q]
      split at h
      · rename_i e
        obtain ⟨l1', q1, q2⟩ := pstep_lle e hl
        rw [q1]; exact hk _ _ _ _ _ q2 h
      · cases h
theorem lexec_lle {P : Cl} {Q : Lw} {sc : Sc} : ∀ f mi me pc ls ls' st w r, lle ls ls' → lexec P Q sc f mi me pc ls st w = some r → lexec P Q sc f mi me pc ls' st w = some r := by
  intro f
  induction f with
  | zero => intro mi me pc ls ls' st w r _ h; cases h
  | succ f ih =>
    intro mi me pc ls ls' st w r hl h
    rw [lexec] at h ⊢
    split at h
    · cases h
    · exact lstep_lle hl (fun pc ls ls' st s hl h => ih _ _ _ _ _ _ _ _ hl h) h
theorem wpl_lle {P : Cl} {Q : Lw} {sc : Sc} {mi : Nat} {me : Me} {pc : Nat} {ls ls' : Lv} {st : List Value} {w : Wd} {R : Option Value → Wd → Prop} (hl : lle' ls ls') (h : wpl P Q sc mi me pc ls st w R) : wpl P Q sc mi me pc ls' st w R := by
  obtain ⟨f, v, s', h1, h2⟩ := h; exact ⟨f, v, s', lexec_lle _ _ _ _ _ _ _ _ _ (lle_of hl) h1, h2⟩
/-! worlds of no, one and two objects -/
def W0 : Wd := (fun _ => s0, 0, false)
def W0p : Wd := (uo (fun _ => s0) 0 s0, 0, true)
def W1 (s : St) : Wd := (uo (fun _ => s0) 0 s, 1, false)
def W1p (s : St) : Wd := (uo (uo (fun _ => s0) 0 s) 1 s0, 1, true)
def W2 (s t : St) : Wd := (uo (uo (fun _ => s0) 0 s) 1 t, 2, false)
theorem uo_uo (f : Nat → St) (o : Nat) (s t : St) : uo (uo f o s) o t = uo f o t := by
  funext i; simp only [uo]; split <;> rfl
theorem uo_swap (f : Nat → St) {o o' : Nat} (h : o ≠ o') (s t : St) : uo (uo f o s) o' t = uo (uo f o' t) o s := by
  funext i; simp only [uo]
  by_cases a : i = o
  · subst a; simp [h]
  · by_cases b : i = o'
    · subst b; simp [Ne.symm h]
    · simp [a, b]
section Worlds
variable {P : Cl} {Q : Lw} {sc : Sc} {mi : Nat} {me me' : Me} {pc x m' : Nat} {ls : Lv} {st r as : List Value} {R : Option Value → Wd → Prop} {n : Nat} {s t : St}
theorem wpl_new0 (hf : fetch me.cd pc = some (.new x, n)) (hx : x = Q.cx) (h1 : 1 * (P.al.length + 1) ≤ Q.rc) (h2 : 1 * (Q.nf + zs P.al P.al.length) ≤ Q.rs) (hq : wpl P Q sc 0 me (pc + 3) ls (.ref 1 :: st) W0p R) : wpl P Q sc 0 me pc ls st W0 R := wpl_new (cnt := 0) hf hx h1 h2 hq
theorem wpl_new1 (hf : fetch me.cd pc = some (.new x, n)) (hx : x = Q.cx) (h1 : 2 * (P.al.length + 1) ≤ Q.rc) (h2 : 2 * (Q.nf + zs P.al P.al.length) ≤ Q.rs) (hq : wpl P Q sc 0 me (pc + 3) ls (.ref 2 :: st) (W1p s) R) : wpl P Q sc 0 me pc ls st (W1 s) R := wpl_new (cnt := 1) hf hx h1 h2 hq
theorem wpl_ctor0 (hf : fetch me.cd pc = some (.invokespecial x, n)) (hx : x = Q.ci) (hme : asc P.ms 0 = some me') (hst : st.drop me'.na = .ref 1 :: r) (has : (st.take me'.na).reverse = as)
    (hg : me'.rf + 1 ≤ me.rf ∧ cats r + (me'.ml + 11) + me'.rl ≤ me.rl ∧ nr (st.take me'.na) = true ∧ 1 * (P.al.length + 1) ≤ Q.rc ∧ 1 * (Q.nf + zs P.al P.al.length) ≤ Q.rs)
    (hq : calV P 0 0 (.ref 0 :: as) s0 fun s' => wpl P Q sc 0 me (pc + 3) ls r (W1 s') R) : wpl P Q sc 0 me pc ls st W0p R := by
  refine wpl_ctor (cnt := 0) hf hx hme hst has hg ?_
  refine calV.mono (show calV P 0 0 (.ref 0 :: as) (uo (fun _ => s0) 0 s0 0) _ from hq) fun s' h => ?_
  rw [uo_uo]; exact h
theorem wpl_ctor1 (hf : fetch me.cd pc = some (.invokespecial x, n)) (hx : x = Q.ci) (hme : asc P.ms 0 = some me') (hst : st.drop me'.na = .ref 2 :: r) (has : (st.take me'.na).reverse = as)
    (hg : me'.rf + 1 ≤ me.rf ∧ cats r + (me'.ml + 11) + me'.rl ≤ me.rl ∧ nr (st.take me'.na) = true ∧ 2 * (P.al.length + 1) ≤ Q.rc ∧ 2 * (Q.nf + zs P.al P.al.length) ≤ Q.rs)
    (hq : calV P 0 0 (.ref 0 :: as) s0 fun s' => wpl P Q sc 0 me (pc + 3) ls r (W2 s s') R) : wpl P Q sc 0 me pc ls st (W1p s) R := by
  refine wpl_ctor (cnt := 1) hf hx hme hst has hg ?_
  refine calV.mono (show calV P 0 0 (.ref 0 :: as) (uo (uo (fun _ => s0) 0 s) 1 s0 1) _ from hq) fun s' h => ?_
  rw [uo_uo]; exact h
theorem wpl_v1 (hf : fetch me.cd pc = some (.invokevirtual x, n)) (hm : asc Q.vx x = some m') (hme : asc P.ms m' = some me') (hst : st.drop me'.na = .ref 1 :: r) (has : (st.take me'.na).reverse = as)
    (hg : m' ≠ 0 ∧ me'.rf + 1 ≤ me.rf ∧ cats r + (me'.ml + 11) + me'.rl ≤ me.rl ∧ nr (st.take me'.na) = true)
    (hq : cal P m' P.al.length (.ref 0 :: as) s fun v s' => wpl P Q sc mi me (pc + 3) ls (v.toList ++ r) (W1 s') R) : wpl P Q sc mi me pc ls st (W1 s) R := by
  refine wpl_call (o := 0) hf hm hme hst has ⟨hg.1, by show 0 < 1; decide, hg.2⟩ ?_
  refine cal.mono (show cal P m' P.al.length (.ref 0 :: as) ((W1 s).1 0) _ from hq) fun v s' h => ?_
  show wpl P Q sc mi me (pc + 3) ls (v.toList ++ r) (uo (uo (fun _ => s0) 0 s) 0 s', 1, false) R
  rw [uo_uo]; exact h
theorem wpl_v2a (hf : fetch me.cd pc = some (.invokevirtual x, n)) (hm : asc Q.vx x = some m') (hme : asc P.ms m' = some me') (hst : st.drop me'.na = .ref 1 :: r) (has : (st.take me'.na).reverse = as)
    (hg : m' ≠ 0 ∧ me'.rf + 1 ≤ me.rf ∧ cats r + (me'.ml + 11) + me'.rl ≤ me.rl ∧ nr (st.take me'.na) = true)
    (hq : cal P m' P.al.length (.ref 0 :: as) s fun v s' => wpl P Q sc mi me (pc + 3) ls (v.toList ++ r) (W2 s' t) R) : wpl P Q sc mi me pc ls st (W2 s t) R := by
  refine wpl_call (o := 0) hf hm hme hst has ⟨hg.1, by show 0 < 2; decide, hg.2⟩ ?_
  refine cal.mono (show cal P m' P.al.length (.ref 0 :: as) ((W2 s t).1 0) _ from hq) fun v s' h => ?_
  show wpl P Q sc mi me (pc + 3) ls (v.toList ++ r) (uo (uo (uo (fun _ => s0) 0 s) 1 t) 0 s', 2, false) R
  rw [uo_swap _ (by decide), uo_uo]; exact h
theorem wpl_v2b (hf : fetch me.cd pc = some (.invokevirtual x, n)) (hm : asc Q.vx x = some m') (hme : asc P.ms m' = some me') (hst : st.drop me'.na = .ref 2 :: r) (has : (st.take me'.na).reverse = as)
    (hg : m' ≠ 0 ∧ me'.rf + 1 ≤ me.rf ∧ cats r + (me'.ml + 11) + me'.rl ≤ me.rl ∧ nr (st.take me'.na) = true)
    (hq : cal P m' P.al.length (.ref 0 :: as) t fun v s' => wpl P Q sc mi me (pc + 3) ls (v.toList ++ r) (W2 s s') R) : wpl P Q sc mi me pc ls st (W2 s t) R := by
  refine wpl_call (o := 1) hf hm hme hst has ⟨hg.1, by show 1 < 2; decide, hg.2⟩ ?_
  refine cal.mono (show cal P m' P.al.length (.ref 0 :: as) ((W2 s t).1 1) _ from hq) fun v s' h => ?_
  show wpl P Q sc mi me (pc + 3) ls (v.toList ++ r) (uo (uo (uo (fun _ => s0) 0 s) 1 t) 1 s', 2, false) R
  rw [uo_uo]; exact h
end Worlds
theorem cal_I {P : Cl} {m' c : Nat} {as : List Value} {s : St} {F : Option Value → St → Prop} (h : calI P m' c as s fun v s' => F (some (.int v)) s') : cal P m' c as s F := cal.mono h fun _ _ ⟨v, e, q⟩ => by subst e; exact q
theorem cal_L {P : Cl} {m' c : Nat} {as : List Value} {s : St} {F : Option Value → St → Prop} (h : calL P m' c as s fun v s' => F (some (.long v)) s') : cal P m' c as s F := cal.mono h fun _ _ ⟨v, e, q⟩ => by subst e; exact q
theorem cal_V {P : Cl} {m' c : Nat} {as : List Value} {s : St} {F : Option Value → St → Prop} (h : calV P m' c as s fun s' => F none s') : cal P m' c as s F := cal.mono h fun _ _ ⟨e, q⟩ => by subst e; exact q
theorem lal_I {P : Cl} {Q : Lw} {sc : Sc} {m' : Nat} {as : List Value} {w : Wd} {F : Option Value → Wd → Prop} (h : lalI P Q sc m' as w fun v w' => F (some (.int v)) w') : lal P Q sc m' as w F := lal.mono h fun _ _ ⟨v, e, q⟩ => by subst e; exact q
theorem lal_L {P : Cl} {Q : Lw} {sc : Sc} {m' : Nat} {as : List Value} {w : Wd} {F : Option Value → Wd → Prop} (h : lalL P Q sc m' as w fun v w' => F (some (.long v)) w') : lal P Q sc m' as w F := lal.mono h fun _ _ ⟨v, e, q⟩ => by subst e; exact q
theorem lal_V {P : Cl} {Q : Lw} {sc : Sc} {m' : Nat} {as : List Value} {w : Wd} {F : Option Value → Wd → Prop} (h : lalV P Q sc m' as w fun w' => F none w') : lal P Q sc m' as w F := lal.mono h fun _ _ ⟨e, q⟩ => by subst e; exact q
end Jvm.LM

namespace Jvm.LM
open Sem ClassFile Op Lib Jvm.Stand Jvm.Free Jvm.LawKit Jvm.RoadKit
/-! rules for the steps that ask something -/
abbrev wpcI (P : Cl) (mi : Nat) (me : Me) (c pc : Nat) (ls : Lv) (st : List Value) (s : St) (Q : Int32 → St → Prop) : Prop := wpc P mi me c pc ls st s fun r s' => ∃ v, r = some (.int v) ∧ Q v s'
abbrev wpcL (P : Cl) (mi : Nat) (me : Me) (c pc : Nat) (ls : Lv) (st : List Value) (s : St) (Q : Int64 → St → Prop) : Prop := wpc P mi me c pc ls st s fun r s' => ∃ v, r = some (.long v) ∧ Q v s'
abbrev wpcV (P : Cl) (mi : Nat) (me : Me) (c pc : Nat) (ls : Lv) (st : List Value) (s : St) (Q : St → Prop) : Prop := wpc P mi me c pc ls st s fun r s' => r = none ∧ Q s'
abbrev wplI (P : Cl) (Q : Lw) (sc : Sc) (mi : Nat) (me : Me) (pc : Nat) (ls : Lv) (st : List Value) (w : Wd) (R : Int32 → Wd → Prop) : Prop := wpl P Q sc mi me pc ls st w fun r w' => ∃ v, r = some (.int v) ∧ R v w'
abbrev wplL (P : Cl) (Q : Lw) (sc : Sc) (mi : Nat) (me : Me) (pc : Nat) (ls : Lv) (st : List Value) (w : Wd) (R : Int64 → Wd → Prop) : Prop := wpl P Q sc mi me pc ls st w fun r w' => ∃ v, r = some (.long v) ∧ R v w'
abbrev wplV (P : Cl) (Q : Lw) (sc : Sc) (mi : Nat) (me : Me) (pc : Nat) (ls : Lv) (st : List Value) (w : Wd) (R : Wd → Prop) : Prop := wpl P Q sc mi me pc ls st w fun r w' => r = none ∧ R w'
section C
variable {P : Cl} {mi : Nat} {me : Me} {c pc a N n : Nat} {ls : Lv} {r : List Value} {s s' : St} {Q : Option Value → St → Prop} {j : Int32}
theorem wpc_ldaI {v : Int32} (hf : fetch me.cd pc = some (.iaload, n)) (ha : P.al[a]? = some (0, N)) (hac : a < c) (hj : inb N j) (hv : gI s (a + 1) (ix j) = v) (hq : wpc P mi me c (pc + 1) ls (.int v :: r) s Q) : wpc P mi me c pc ls (.int j :: .ref (a + 1) :: r) s Q := by
  subst hv; exact wpc_lda hf (Or.inl ⟨rfl, rfl⟩) ha hac hj hq
theorem wpc_ldaZ {v : Int32} (hf : fetch me.cd pc = some (.baload, n)) (ha : P.al[a]? = some (1, N)) (hac : a < c) (hj : inb N j) (hv : gI s (a + 1) (ix j) = v) (hq : wpc P mi me c (pc + 1) ls (.int v :: r) s Q) : wpc P mi me c pc ls (.int j :: .ref (a + 1) :: r) s Q := by
  subst hv; exact wpc_lda hf (Or.inr (Or.inl ⟨rfl, rfl⟩)) ha hac hj hq
theorem wpc_ldaJ {v : Int64} (hf : fetch me.cd pc = some (.laload, n)) (ha : P.al[a]? = some (2, N)) (hac : a < c) (hj : inb N j) (hv : gL s (a + 1) (ix j) = v) (hq : wpc P mi me c (pc + 1) ls (.long v :: r) s Q) : wpc P mi me c pc ls (.int j :: .ref (a + 1) :: r) s Q := by
  subst hv; exact wpc_lda hf (Or.inr (Or.inr ⟨rfl, rfl⟩)) ha hac hj hq
theorem wpc_staI {z : Int32} (hf : fetch me.cd pc = some (.iastore, n)) (ha : P.al[a]? = some (0, N)) (hac : a < c) (hj : inb N j) (hs : sI s (a + 1) (ix j) z = s') (hq : wpc P mi me c (pc + 1) ls r s' Q) : wpc P mi me c pc ls (.int z :: .int j :: .ref (a + 1) :: r) s Q :=
  wpc_sta hf (Or.inl ⟨rfl, rfl, z, rfl, hs.symm⟩) ha hac hj hq
theorem wpc_staZ {z : Int32} (hf : fetch me.cd pc = some (.bastore, n)) (ha : P.al[a]? = some (1, N)) (hac : a < c) (hj : inb N j) (hs : sI s (a + 1) (ix j) (z &&& 1) = s') (hq : wpc P mi me c (pc + 1) ls r s' Q) : wpc P mi me c pc ls (.int z :: .int j :: .ref (a + 1) :: r) s Q :=
  wpc_sta hf (Or.inr (Or.inl ⟨rfl, rfl, z, rfl, hs.symm⟩)) ha hac hj hq
theorem wpc_staJ {z : Int64} (hf : fetch me.cd pc = some (.lastore, n)) (ha : P.al[a]? = some (2, N)) (hac : a < c) (hj : inb N j) (hs : sL s (a + 1) (ix j) z = s') (hq : wpc P mi me c (pc + 1) ls r s' Q) : wpc P mi me c pc ls (.long z :: .int j :: .ref (a + 1) :: r) s Q :=
  wpc_sta hf (Or.inr (Or.inr ⟨rfl, rfl, z, rfl, hs.symm⟩)) ha hac hj hq
theorem wpc_pl {i : Instr} {pc' : Nat} {ls' : Lv} {st st' : List Value} (hf : fetch me.cd pc = some (i, n)) (hi : ∀ (rt : Option Value → St → Rs) cl (k : Nat → Nat → Lv → List Value → St → Rs), cstep P mi me rt cl k i c pc ls st s = match pstep i pc ls st with | some (pc', ls', st') => k c pc' ls' st' s | none => none) (h : pstep i pc ls st = some (pc', ls', st')) (hq : wpc P mi me c pc' ls' st' s Q) : wpc P mi me c pc ls st s Q :=
  wpc_one hf (fun rt cl k => by rw [hi, h]) hq
theorem wpc_idiv {x y : Int32} (hf : fetch me.cd pc = some (.idiv, n)) (hy : ¬ y = 0) (hq : wpc P mi me c (pc + 1) ls (.int (x / y) :: r) s Q) : wpc P mi me c pc ls (.int y :: .int x :: r) s Q :=
  wpc_pl hf (fun _ _ _ => rfl) (by simp only [pstep, qstep]; rw [if_neg hy]) hq
theorem wpc_irem {x y : Int32} (hf : fetch me.cd pc = some (.irem, n)) (hy : ¬ y = 0) (hq : wpc P mi me c (pc + 1) ls (.int (x % y) :: r) s Q) : wpc P mi me c pc ls (.int y :: .int x :: r) s Q :=
  wpc_pl hf (fun _ _ _ => rfl) (by simp only [pstep, qstep]; rw [if_neg hy]) hq
theorem wpc_ldiv {x y : Int64} (hf : fetch me.cd pc = some (.ldiv, n)) (hy : ¬ y = 0) (hq : wpc P mi me c (pc + 1) ls (.long (x / y) :: r) s Q) : wpc P mi me c pc ls (.long y :: .long x :: r) s Q :=
  wpc_pl hf (fun _ _ _ => rfl) (by simp only [pstep, qstep]; rw [if_neg hy]) hq
end C
/-- the roads of a switch: one a value, from l on -/
def TS (x : Int32) (F : Int → Prop) : List Int → Int → Prop
  | [], _ => True
  | o :: r, l => (x.toInt = l → F o) ∧ TS x F r (l + 1)
theorem TS_at {x : Int32} {F : Int → Prop} : ∀ {os : List Int} {l : Int}, TS x F os l → l ≤ x.toInt → x.toInt < l + os.length → ∃ o, os[(x.toInt - l).toNat]? = some o ∧ F o := by
  intro os
  induction os with
  | nil => intro l _ h1 h2; simp at h2; omega
  | cons o r ih =>
    intro l h h1 h2
    by_cases e : x.toInt = l
    · exact ⟨o, by rw [e]; simp, h.1 e⟩
    · obtain ⟨o', q1, q2⟩ := ih h.2 (by omega) (by simp at h2; omega)
      refine ⟨o', ?_, q2⟩
      have : (x.toInt - l).toNat = (x.toInt - (l + 1)).toNat + 1 := by omega
      rw [this]; simpa using q1
theorem tsw_ok {x : Int32} {F : Int → Prop} {pc : Nat} {ls : Lv} {r : List Value} {d lo hi : Int} {offs : Array Int} (hd : 0 ≤ (pc : Int) + d) (ho : ∀ o ∈ offs.toList, 0 ≤ (pc : Int) + o) (hh : hi + 1 = lo + offs.toList.length)
    (h1 : TS x F offs.toList lo) (h2 : (x.toInt < lo ∨ x.toInt > hi) → F d) : ∃ o, F o ∧ pstep (.tableswitch d lo hi offs) pc ls (.int x :: r) = some (jmp pc o, ls, r) := by
  by_cases hx : x.toInt < lo ∨ x.toInt > hi
  · refine ⟨d, h2 hx, ?_⟩
    simp only [pstep, qstep]; rw [if_pos hx, if_pos hd]
  · obtain ⟨o, q1, q2⟩ := TS_at h1 (by omega) (by omega)
    have q3 : offs[(x.toInt - lo).toNat]? = some o := by rw [← Array.getElem?_toList]; exact q1
    refine ⟨o, q2, ?_⟩
    simp only [pstep, qstep]; rw [if_neg hx, q3]; dsimp only; rw [if_pos (ho o (List.mem_of_getElem? q1))]
theorem wpc_tsw {P : Cl} {mi : Nat} {me : Me} {c pc n : Nat} {ls : Lv} {r : List Value} {s : St} {Q : Option Value → St → Prop} {x : Int32} {d lo hi : Int} {offs : Array Int} (hf : fetch me.cd pc = some (.tableswitch d lo hi offs, n)) (hd : 0 ≤ (pc : Int) + d) (ho : ∀ o ∈ offs.toList, 0 ≤ (pc : Int) + o) (hh : hi + 1 = lo + offs.toList.length)
    (h1 : TS x (fun o => wpc P mi me c (jmp pc o) ls r s Q) offs.toList lo) (h2 : (x.toInt < lo ∨ x.toInt > hi) → wpc P mi me c (jmp pc d) ls r s Q) : wpc P mi me c pc ls (.int x :: r) s Q := by
  obtain ⟨o, q1, q2⟩ := tsw_ok (ls := ls) (r := r) hd ho hh h1 h2
  exact wpc_pl hf (fun _ _ _ => rfl) q2 q1
section L
variable {P : Cl} {Q : Lw} {sc : Sc} {mi : Nat} {me : Me} {pc n : Nat} {ls : Lv} {r : List Value} {w : Wd} {R : Option Value → Wd → Prop}
theorem wpl_pl {i : Instr} {pc' : Nat} {ls' : Lv} {st st' : List Value} (hf : fetch me.cd pc = some (i, n)) (hi : isPl i = true) (h : pstep i pc ls st = some (pc', ls', st')) (hq : wpl P Q sc mi me pc' ls' st' w R) : wpl P Q sc mi me pc ls st w R :=
  wpl_one hf (fun rt cc cl k => by rw [lstep_pl hi, h]) hq
theorem wpl_idiv {x y : Int32} (hf : fetch me.cd pc = some (.idiv, n)) (hy : ¬ y = 0) (hq : wpl P Q sc mi me (pc + 1) ls (.int (x / y) :: r) w R) : wpl P Q sc mi me pc ls (.int y :: .int x :: r) w R :=
  wpl_pl hf rfl (by simp only [pstep, qstep]; rw [if_neg hy]) hq
theorem wpl_irem {x y : Int32} (hf : fetch me.cd pc = some (.irem, n)) (hy : ¬ y = 0) (hq : wpl P Q sc mi me (pc + 1) ls (.int (x % y) :: r) w R) : wpl P Q sc mi me pc ls (.int y :: .int x :: r) w R :=
  wpl_pl hf rfl (by simp only [pstep, qstep]; rw [if_neg hy]) hq
theorem wpl_ldiv {x y : Int64} (hf : fetch me.cd pc = some (.ldiv, n)) (hy : ¬ y = 0) (hq : wpl P Q sc mi me (pc + 1) ls (.long (x / y) :: r) w R) : wpl P Q sc mi me pc ls (.long y :: .long x :: r) w R :=
  wpl_pl hf rfl (by simp only [pstep, qstep]; rw [if_neg hy]) hq
theorem wpl_tsw {x : Int32} {d lo hi : Int} {offs : Array Int} (hf : fetch me.cd pc = some (.tableswitch d lo hi offs, n)) (hd : 0 ≤ (pc : Int) + d) (ho : ∀ o ∈ offs.toList, 0 ≤ (pc : Int) + o) (hh : hi + 1 = lo + offs.toList.length)
    (h1 : TS x (fun o => wpl P Q sc mi me (jmp pc o) ls r w R) offs.toList lo) (h2 : (x.toInt < lo ∨ x.toInt > hi) → wpl P Q sc mi me (jmp pc d) ls r w R) : wpl P Q sc mi me pc ls (.int x :: r) w R := by
  obtain ⟨o, q1, q2⟩ := tsw_ok (ls := ls) (r := r) hd ho hh h1 h2
  exact wpl_pl hf rfl q2 q1
end L
/-! the links, by lists -/
def AllA {α : Type} (Q : Nat → α → Prop) : List (Nat × α) → Prop
  | [] => True
  | (a, b) :: r => Q a b ∧ AllA Q r
theorem asc_all {α : Type} {Q : Nat → α → Prop} {l : List (Nat × α)} (h : AllA Q l) : ∀ k v, asc l k = some v → Q k v := by
  induction l with
  | nil => intro k v e; cases e
  | cons x r ih =>
    intro k v e
    obtain ⟨a, b⟩ := x
    simp only [asc] at e
    cases q : Nat.beq a k
    · rw [q] at e; exact ih h.2 k v e
    · rw [q] at e; cases e
      obtain rfl := Nat.eq_of_beq_eq_true q
      exact h.1
def AllL (Q : Nat → Nat → Prop) : List (Nat × Nat) → Prop
  | [] => True
  | (a, b) :: r => Q a b ∧ AllL Q r
theorem lst_all {Q : Nat → Nat → Prop} {l : List (Nat × Nat)} (h : AllL Q l) : ∀ (j tt N : Nat), l[j]? = some (tt, N) → Q tt N := by
  induction l with
  | nil => intro j tt N e; simp at e
  | cons x r ih =>
    intro j tt N e
    obtain ⟨a, b⟩ := x
    cases j with
    | zero => simp at e; obtain ⟨rfl, rfl⟩ := e; exact h.1
    | succ j => simp at e; exact ih h.2 j tt N e
def dst1 (k : Nat) (fe : Fe) : List (Nat × Fe) → Bool
  | [] => true
  | (k', fe') :: r => (!(fe.1 == fe'.1)) && (decide (fe.2.2.1 < 3) || !(Nat.beq fe.2.2.1 fe'.2.2.1)) && dst1 k fe r
def dst : List (Nat × Fe) → Bool
  | [] => true
  | (k, fe) :: r => dst1 k fe r && dst r
theorem dst1_ok {k : Nat} {fe : Fe} {l : List (Nat × Fe)} (h : dst1 k fe l = true) : ∀ k' fe', asc l k' = some fe' → fe.1 ≠ fe'.1 ∧ (3 ≤ fe.2.2.1 → fe.2.2.1 ≠ fe'.2.2.1) := by
  induction l with
  | nil => intro k' fe' e; cases e
  | cons x r ih =>
    intro k' fe' e
    obtain ⟨a, b⟩ := x
    simp only [dst1, Bool.and_eq_true] at h
    obtain ⟨⟨h1, h2⟩, h3⟩ := h
    simp only [asc] at e
    cases q : Nat.beq a k'
    · rw [q] at e; exact ih h3 k' fe' e
    · rw [q] at e; cases e
      refine ⟨fun q2 => by rw [q2] at h1; simp at h1, fun q2 q3 => ?_⟩
      rw [q3] at h2 q2
      simp only [Bool.or_eq_true, decide_eq_true_eq, Bool.not_eq_true'] at h2
      rcases h2 with h2 | h2
      · omega
      · rw [Nat.beq_refl] at h2; cases h2
theorem dst_ok {l : List (Nat × Fe)} (h : dst l = true) : ∀ (k k' : Nat) (fe fe' : Fe), asc l k = some fe → asc l k' = some fe' → k ≠ k' → fe.1 ≠ fe'.1 ∧ (3 ≤ fe.2.2.1 → fe.2.2.1 ≠ fe'.2.2.1) := by
  induction l with
  | nil => intro k k' fe fe' e; cases e
  | cons x r ih =>
    intro k k' fe fe' e e' hne
    obtain ⟨a, b⟩ := x
    simp only [dst, Bool.and_eq_true] at h
    simp only [asc] at e e'
    cases q : Nat.beq a k <;> cases q' : Nat.beq a k' <;> rw [q] at e <;> rw [q'] at e'
    · exact ih h.2 k k' fe fe' e e' hne
    · cases e'
      obtain ⟨h1, h2⟩ := dst1_ok h.1 k fe e
      exact ⟨Ne.symm h1, fun z1 z2 => h2 (z2 ▸ z1) z2.symm⟩
    · cases e; exact dst1_ok h.1 k' fe' e'
    · exact absurd ((Nat.eq_of_beq_eq_true q).symm.trans (Nat.eq_of_beq_eq_true q')) hne
def chk (bytes : ByteArray) : Cd → Bool
  | [] => true
  | (pc, i, n) :: r => (match decode bytes pc with | .ok (i', n') => decide (i' = i ∧ n' = n) | .error _ => false) && (isSw i || Nat.beq n (ilen i)) && chk bytes r
theorem chk_ok {bytes : ByteArray} {cd : Cd} (h : chk bytes cd = true) : ∀ pc i n, fetch cd pc = some (i, n) → decode bytes pc = .ok (i, n) ∧ (isSw i = true ∨ n = ilen i) := by
  induction cd with
  | nil => intro pc i n e; cases e
  | cons x r ih =>
    intro pc i n e
    obtain ⟨a, i', n'⟩ := x
    simp only [chk, Bool.and_eq_true] at h
    obtain ⟨⟨h1, h2⟩, h3⟩ := h
    simp only [fetch] at e
    cases q : Nat.beq a pc
    · rw [q] at e; exact ih h3 pc i n e
    · rw [q] at e; cases e
      obtain rfl := Nat.eq_of_beq_eq_true q
      refine ⟨?_, ?_⟩
      · split at h1
        · rename_i i2 n2 hd
          obtain ⟨rfl, rfl⟩ := of_decide_eq_true h1
          exact hd
        · cases h1
      · simp only [Bool.or_eq_true] at h2
        exact h2.imp id Nat.eq_of_beq_eq_true
/-- the array that the law is handed -/
theorem script_of {s : State} {args : Array Value} {a : Addr} {cl : Cell} {t : Term} {k : Int32} (hf : Fit s) (A : Arr s s.heap a cl .int) (ev : t.eval args s none [] s = some (.ref a)) (hl : (Cond.le (Term.length t) (Term.int k)).value args s none s [] = some true) :
    (cl.slots.size < 2 ^ 31 ∧ (cl.slots.size : Int) ≤ k.toInt) ∧ SRep s s.heap a s.heap.size (some (cl.slots.size, fun i => match cl.slots[i]? with | some (.int x) => x | _ => 0)) := by
  obtain ⟨x, y, h1, h2, -⟩ := cmp_v (Or.inr (Or.inr hl))
  have hz : cl.slots.size < 2 ^ 31 := by
    have q : (Term.length t).eval args s none [] s = if cl.slots.size < 2 ^ 31 then some (.int cl.slots.size.toInt32) else none := by simp [Term.eval, ev, A.fin (Vm.Alike.refl _)]
    rw [h1] at q
    split at q
    · assumption
    · cases q
  have h1' := len_f ev (A.fin (Vm.Alike.refl _)) hz (args := args) (first := s) (o := none) (idx := [])
  have hle := gotT (Cond.le_ints h1' (Term.int_eval k)) hl
  rw [Int32.le_iff_toInt_le, len_toInt hz] at hle
  refine ⟨⟨hz, hle⟩, A.lt, cl, A, rfl, fun i hi => ?_⟩
  have e1 : cl.slots[i]? = some cl.slots[i] := Array.getElem?_eq_getElem hi
  have q := elem_fit hf A (j := i.toInt32) (idx_in hi hz)
  have e2 : i.toInt32.toNatClampNeg = i := by
    have := len_toInt (n := i) (by omega)
    simp only [Int32.toNatClampNeg, this]; rfl
  rw [e2] at q
  obtain ⟨v, hv, hfv⟩ := q
  obtain ⟨x, rfl⟩ := fit_I hfv (Or.inl rfl)
  rw [hv]
  dsimp only
  rw [hv]
end Jvm.LM
namespace Jvm.LM
theorem law_run {P : Cl} {Q : Lw} {sc : Sc} {as : List Value} (h : lalI P Q sc 0 as W0 fun v _ => v = 1) {me : Me} (hme : asc Q.ms 0 = some me) : ∃ f w', lexec P Q sc f 0 me 0 (lay as me.ml) [] W0 = some (some (.int 1), w') := by
  obtain ⟨f, v, w', h1, v', rfl, rfl⟩ := h
  refine ⟨f, w', ?_⟩
  simp only [lcall, hme] at h1
  split at h1
  · exact h1
  · cases h1
end Jvm.LM

namespace Jvm.LM
open Jvm.RoadKit
/-! numbers -/
theorem i32_add {x y : Int32} (h1 : -2147483648 ≤ x.toInt + y.toInt) (h2 : x.toInt + y.toInt < 2147483648) : (x + y).toInt = x.toInt + y.toInt := by
  have := c_iadd x y; have := rng32 (x + y); omega
theorem i32_sub {x y : Int32} (h1 : -2147483648 ≤ x.toInt - y.toInt) (h2 : x.toInt - y.toInt < 2147483648) : (x - y).toInt = x.toInt - y.toInt := by
  have := c_isub x y; have := rng32 (x - y); omega
theorem i32_mul {x y : Int32} (h1 : -2147483648 ≤ x.toInt * y.toInt) (h2 : x.toInt * y.toInt < 2147483648) : (x * y).toInt = x.toInt * y.toInt := by
  have := c_imul x y; have := rng32 (x * y); omega
theorem ix_int {i : Int32} (h : 0 ≤ i.toInt) : (ix i : Int) = i.toInt := by simp only [ix, Int32.toNatClampNeg]; omega
theorem ix_inj {i j : Int32} (hi : 0 ≤ i.toInt) (hj : 0 ≤ j.toInt) : ix i = ix j ↔ i = j := by
  have a := ix_int hi; have b := ix_int hj
  rw [← Int32.toInt_inj]; omega
theorem i32_lt {x y : Int32} : x < y ↔ x.toInt < y.toInt := Int32.lt_iff_toInt_lt
theorem i32_eq {x y : Int32} : x = y ↔ x.toInt = y.toInt := Int32.toInt_inj.symm
/-- a loop that counts up to N: from the next turn to this one -/
theorem loop_up {F : Int32 → Prop} (N : Int) (hN : N < 2147483647) (step : ∀ i, 0 ≤ i.toInt → i.toInt < N → (i + 1).toInt = i.toInt + 1 → F (i + 1) → F i) (last : ∀ i, i.toInt = N → F i) : ∀ i, 0 ≤ i.toInt → i.toInt ≤ N → F i := by
  have key : ∀ n : Nat, ∀ i : Int32, 0 ≤ i.toInt → i.toInt + n = N → F i := by
    intro n
    induction n with
    | zero => intro i h0 h1; exact last i (by omega)
    | succ n ih =>
      intro i h0 h1
      have e : (i + 1).toInt = i.toInt + 1 := i32_add (by simp; omega) (by simp; omega)
      exact step i h0 (by omega) e (ih (i + 1) (by omega) (by omega))
  intro i h0 h1
  exact key (N - i.toInt).toNat i h0 (by omega)
theorem cmpL_lt {x y : Int64} : Jvm.Free.XT.cmpL x y < 0 ↔ x < y := by
  unfold Jvm.Free.XT.cmpL; split
  · rename_i h; exact ⟨fun q => absurd q (by decide), fun q => by rw [Int64.lt_iff_toInt_lt] at h q; omega⟩
  · split
    · rename_i h; subst h; exact ⟨fun q => absurd q (by decide), fun q => by rw [Int64.lt_iff_toInt_lt] at q; omega⟩
    · rename_i h1 h2
      refine ⟨fun _ => ?_, fun _ => by decide⟩
      rw [Int64.lt_iff_toInt_lt] at h1 ⊢; rw [← Int64.toInt_inj] at h2; omega
theorem cmpL_gt {x y : Int64} : 0 < Jvm.Free.XT.cmpL x y ↔ y < x := by
  unfold Jvm.Free.XT.cmpL; split
  · rename_i h; exact ⟨fun _ => h, fun _ => by decide⟩
  · rename_i h; split
    · exact ⟨fun q => absurd q (by decide), fun q => absurd q h⟩
    · exact ⟨fun q => absurd q (by decide), fun q => absurd q h⟩
theorem cmpL_eq {x y : Int64} : Jvm.Free.XT.cmpL x y = 0 ↔ x = y := by
  unfold Jvm.Free.XT.cmpL; split
  · rename_i h; exact ⟨fun q => absurd q (by decide), fun q => by subst q; rw [Int64.lt_iff_toInt_lt] at h; omega⟩
  · split
    · rename_i h; exact ⟨fun _ => h, fun _ => rfl⟩
    · rename_i h1 h2; exact ⟨fun q => absurd q (by decide), fun q => absurd q h2⟩
end Jvm.LM

namespace Jvm.Pilot.@@N@@
open Jvm Jvm.ClassFile Sem Op Lib Jvm.Free Jvm.Stand Jvm.LawKit Jvm.RoadKit Jvm.LM Bundle Jvm.Pilot.@@N@@.Jvm.D
def cm0 : Me := ("<init>", "(II)V", 2, 0, [(0, .aload_n 0, 1), (1, .invokespecial 1, 3), (4, .aload_n 0, 1), (5, .bipush 7, 2), (7, .newarray .int, 2), (9, .putfield 7, 3), (12, .aload_n 0, 1), (13, .bipush 7, 2), (15, .newarray .int, 2), (17, .putfield 13, 3), (20, .aload_n 0, 1), (21, .bipush 7, 2), (23, .newarray .int, 2), (25, .putfield 16, 3), (28, .aload_n 0, 1), (29, .bipush 7, 2), (31, .newarray .int, 2), (33, .putfield 19, 3), (36, .aload_n 0, 1), (37, .bipush 7, 2), (39, .newarray .int, 2), (41, .putfield 22, 3), (44, .aload_n 0, 1), (45, .bipush 7, 2), (47, .newarray .int, 2), (49, .putfield 25, 3), (52, .aload_n 0, 1), (53, .bipush 7, 2), (55, .newarray .int, 2), (57, .putfield 28, 3), (60, .aload_n 0, 1), (61, .bipush 7, 2), (63, .newarray .long, 2), (65, .putfield 31, 3), (68, .aload_n 0, 1), (69, .bipush 7, 2), (71, .newarray .int, 2), (73, .putfield 35, 3), (76, .aload_n 0, 1), (77, .bipush 112, 2), (79, .newarray .int, 2), (81, .putfield 38, 3), (84, .aload_n 0, 1), (85, .sipush 784, 3), (88, .newarray .int, 2), (90, .putfield 41, 3), (93, .aload_n 0, 1), (94, .aload_n 0, 1), (95, .iload_n 1, 1), (96, .iconst 0, 1), (97, .iconst 3, 1), (98, .invokevirtual 44, 3), (101, .putfield 48, 3), (104, .aload_n 0, 1), (105, .aload_n 0, 1), (106, .iload_n 2, 1), (107, .iconst 1, 1), (108, .bipush 8, 2), (110, .invokevirtual 44, 3), (113, .putfield 52, 3), (116, .aload_n 0, 1), (117, .bipush 7, 2), (119, .aload_n 0, 1), (120, .getfield 48, 3), (123, .isub, 1), (124, .putfield 55, 3), (127, .aload_n 0, 1), (128, .iconst 0, 1), (129, .putfield 58, 3), (132, .aload_n 0, 1), (133, .invokevirtual 61, 3), (136, .aload_n 0, 1), (137, .invokevirtual 64, 3), (140, .return_, 1)], 3, 3, 39)
def cm2 : Me := ("setInput", "(IIII)Z", 4, 2, [(0, .aload_n 0, 1), (1, .iload_n 1, 1), (2, .invokevirtual 67, 3), (5, .ifCond .ne 5, 3), (8, .iconst 0, 1), (9, .ireturn, 1), (10, .aload_n 0, 1), (11, .iload_n 2, 1), (12, .invokevirtual 71, 3), (15, .ifCond .ne 5, 3), (18, .iconst 0, 1), (19, .ireturn, 1), (20, .aload_n 0, 1), (21, .getfield 7, 3), (24, .iload_n 1, 1), (25, .iaload, 1), (26, .ifCond .eq 5, 3), (29, .iconst 0, 1), (30, .ireturn, 1), (31, .aload_n 0, 1), (32, .getfield 13, 3), (35, .iload_n 1, 1), (36, .iload_n 2, 1), (37, .iastore, 1), (38, .aload_n 0, 1), (39, .getfield 16, 3), (42, .iload_n 1, 1), (43, .iload_n 2, 1), (44, .iastore, 1), (45, .aload_n 0, 1), (46, .getfield 31, 3), (49, .iload_n 1, 1), (50, .aload_n 0, 1), (51, .iload_n 3, 1), (52, .iload 4, 2), (54, .invokevirtual 74, 3), (57, .lastore, 1), (58, .aload_n 0, 1), (59, .getfield 7, 3), (62, .iload_n 1, 1), (63, .iconst 1, 1), (64, .iastore, 1), (65, .aload_n 0, 1), (66, .getfield 19, 3), (69, .iload_n 1, 1), (70, .iconst 1, 1), (71, .iastore, 1), (72, .aload_n 0, 1), (73, .getfield 22, 3), (76, .iload_n 1, 1), (77, .iconst 0, 1), (78, .iastore, 1), (79, .aload_n 0, 1), (80, .iload_n 1, 1), (81, .iconst 1, 1), (82, .iconst 0, 1), (83, .iload_n 2, 1), (84, .invokevirtual 78, 3), (87, .aload_n 0, 1), (88, .iload_n 1, 1), (89, .invokevirtual 82, 3), (92, .iconst 1, 1), (93, .ireturn, 1)], 5, 7, 112)
def cm3 : Me := ("deliver", "(IIII)I", 4, 1, [(0, .aload_n 0, 1), (1, .iload_n 3, 1), (2, .invokevirtual 86, 3), (5, .ifCond .ne 5, 3), (8, .iconst 0, 1), (9, .ireturn, 1), (10, .aload_n 0, 1), (11, .iload 4, 2), (13, .invokevirtual 89, 3), (16, .ifCond .ne 5, 3), (19, .iconst 0, 1), (20, .ireturn, 1), (21, .iconst 0, 1), (22, .istore 5, 2), (24, .iconst 0, 1), (25, .istore 6, 2), (27, .iload 6, 2), (29, .bipush 7, 2), (31, .if_icmp .ge 34, 3), (34, .aload_n 0, 1), (35, .iload_n 2, 1), (36, .iload 6, 2), (38, .invokevirtual 92, 3), (41, .ifCond .eq 18, 3), (44, .iload 5, 2), (46, .aload_n 0, 1), (47, .iload_n 1, 1), (48, .iload 6, 2), (50, .iload_n 3, 1), (51, .iload 4, 2), (53, .invokevirtual 96, 3), (56, .iadd, 1), (57, .istore 5, 2), (59, .iinc 6 1, 3), (62, .goto (-35), 3), (65, .iload 5, 2), (67, .ireturn, 1)], 7, 9, 147)
def cm5 : Me := ("status", "(I)I", 1, 1, [(0, .aload_n 0, 1), (1, .iload_n 1, 1), (2, .invokevirtual 67, 3), (5, .ifCond .ne 5, 3), (8, .iconst (-1), 1), (9, .ireturn, 1), (10, .aload_n 0, 1), (11, .getfield 7, 3), (14, .iload_n 1, 1), (15, .iaload, 1), (16, .ireturn, 1)], 2, 1, 13)
def cm8 : Me := ("estimate", "(I)I", 1, 1, [(0, .aload_n 0, 1), (1, .iload_n 1, 1), (2, .invokevirtual 67, 3), (5, .ifCond .ne 5, 3), (8, .iconst (-1), 1), (9, .ireturn, 1), (10, .aload_n 0, 1), (11, .iload_n 1, 1), (12, .invokevirtual 104, 3), (15, .ifCond .ne 5, 3), (18, .iconst (-1), 1), (19, .ireturn, 1), (20, .aload_n 0, 1), (21, .getfield 16, 3), (24, .iload_n 1, 1), (25, .iaload, 1), (26, .ireturn, 1)], 2, 1, 13)
def cm10 : Me := ("decision", "(I)I", 1, 1, [(0, .aload_n 0, 1), (1, .iload_n 1, 1), (2, .invokevirtual 67, 3), (5, .ifCond .ne 5, 3), (8, .iconst (-1), 1), (9, .ireturn, 1), (10, .aload_n 0, 1), (11, .getfield 25, 3), (14, .iload_n 1, 1), (15, .iaload, 1), (16, .ireturn, 1)], 2, 1, 13)
def cm11 : Me := ("decisionRound", "(I)I", 1, 1, [(0, .aload_n 0, 1), (1, .iload_n 1, 1), (2, .invokevirtual 67, 3), (5, .ifCond .ne 5, 3), (8, .iconst (-1), 1), (9, .ireturn, 1), (10, .aload_n 0, 1), (11, .getfield 28, 3), (14, .iload_n 1, 1), (15, .iaload, 1), (16, .ireturn, 1)], 2, 1, 13)
def cm12 : Me := ("sentValue", "(III)I", 3, 1, [(0, .aload_n 0, 1), (1, .iload_n 1, 1), (2, .invokevirtual 67, 3), (5, .ifCond .ne 5, 3), (8, .iconst (-1), 1), (9, .ireturn, 1), (10, .aload_n 0, 1), (11, .iload_n 2, 1), (12, .invokevirtual 86, 3), (15, .ifCond .ne 5, 3), (18, .iconst (-1), 1), (19, .ireturn, 1), (20, .aload_n 0, 1), (21, .iload_n 3, 1), (22, .invokevirtual 89, 3), (25, .ifCond .ne 5, 3), (28, .iconst (-1), 1), (29, .ireturn, 1), (30, .aload_n 0, 1), (31, .iload_n 1, 1), (32, .iload_n 2, 1), (33, .iload_n 3, 1), (34, .invokevirtual 107, 3), (37, .ireturn, 1)], 4, 3, 44)
def cm14 : Me := ("coinFlips", "(I)I", 1, 1, [(0, .aload_n 0, 1), (1, .iload_n 1, 1), (2, .invokevirtual 67, 3), (5, .ifCond .ne 5, 3), (8, .iconst (-1), 1), (9, .ireturn, 1), (10, .aload_n 0, 1), (11, .getfield 35, 3), (14, .iload_n 1, 1), (15, .iaload, 1), (16, .ireturn, 1)], 2, 1, 13)
def cm15 : Me := ("coinState", "(I)J", 1, 3, [(0, .aload_n 0, 1), (1, .iload_n 1, 1), (2, .invokevirtual 67, 3), (5, .ifCond .ne 5, 3), (8, .lconst 0, 1), (9, .lreturn, 1), (10, .aload_n 0, 1), (11, .getfield 31, 3), (14, .iload_n 1, 1), (15, .laload, 1), (16, .lreturn, 1)], 2, 1, 13)
def cm17 : Me := ("resetAllProcesses", "()V", 0, 0, [(0, .iconst 0, 1), (1, .istore_n 1, 1), (2, .iload_n 1, 1), (3, .bipush 7, 2), (5, .if_icmp .ge 14, 3), (8, .aload_n 0, 1), (9, .iload_n 1, 1), (10, .invokevirtual 113, 3), (13, .iinc 1 1, 3), (16, .goto (-14), 3), (19, .return_, 1)], 2, 2, 26)
def cm18 : Me := ("resetProcess", "(I)V", 1, 0, [(0, .aload_n 0, 1), (1, .iload_n 1, 1), (2, .invokevirtual 67, 3), (5, .ifCond .ne 4, 3), (8, .return_, 1), (9, .aload_n 0, 1), (10, .getfield 7, 3), (13, .iload_n 1, 1), (14, .iconst 0, 1), (15, .iastore, 1), (16, .aload_n 0, 1), (17, .getfield 13, 3), (20, .iload_n 1, 1), (21, .iconst (-1), 1), (22, .iastore, 1), (23, .aload_n 0, 1), (24, .getfield 16, 3), (27, .iload_n 1, 1), (28, .iconst (-1), 1), (29, .iastore, 1), (30, .aload_n 0, 1), (31, .getfield 19, 3), (34, .iload_n 1, 1), (35, .iconst 0, 1), (36, .iastore, 1), (37, .aload_n 0, 1), (38, .getfield 22, 3), (41, .iload_n 1, 1), (42, .iconst 0, 1), (43, .iastore, 1), (44, .aload_n 0, 1), (45, .getfield 25, 3), (48, .iload_n 1, 1), (49, .iconst (-1), 1), (50, .iastore, 1), (51, .aload_n 0, 1), (52, .getfield 28, 3), (55, .iload_n 1, 1), (56, .iconst 0, 1), (57, .iastore, 1), (58, .aload_n 0, 1), (59, .getfield 31, 3), (62, .iload_n 1, 1), (63, .lconst 0, 1), (64, .lastore, 1), (65, .aload_n 0, 1), (66, .getfield 35, 3), (69, .iload_n 1, 1), (70, .iconst 0, 1), (71, .iastore, 1), (72, .return_, 1)], 2, 1, 13)
def cm19 : Me := ("resetAllMessages", "()V", 0, 0, [(0, .iconst 0, 1), (1, .istore_n 1, 1), (2, .iload_n 1, 1), (3, .bipush 112, 2), (5, .if_icmp .ge 16, 3), (8, .aload_n 0, 1), (9, .getfield 38, 3), (12, .iload_n 1, 1), (13, .iconst (-1), 1), (14, .iastore, 1), (15, .iinc 1 1, 3), (18, .goto (-16), 3), (21, .iconst 0, 1), (22, .istore_n 1, 1), (23, .iload_n 1, 1), (24, .sipush 784, 3), (27, .if_icmp .ge 16, 3), (30, .aload_n 0, 1), (31, .getfield 41, 3), (34, .iload_n 1, 1), (35, .iconst 0, 1), (36, .iastore, 1), (37, .iinc 1 1, 3), (40, .goto (-17), 3), (43, .return_, 1)], 2, 0, 0)
def cm20 : Me := ("clamp", "(III)I", 3, 1, [(0, .iload_n 1, 1), (1, .iload_n 2, 1), (2, .if_icmp .ge 5, 3), (5, .iload_n 2, 1), (6, .ireturn, 1), (7, .iload_n 1, 1), (8, .iload_n 3, 1), (9, .if_icmp .le 5, 3), (12, .iload_n 3, 1), (13, .ireturn, 1), (14, .iload_n 1, 1), (15, .ireturn, 1)], 4, 0, 0)
def cm21 : Me := ("validProcess", "(I)Z", 1, 2, [(0, .iload_n 1, 1), (1, .ifCond .lt 13, 3), (4, .iload_n 1, 1), (5, .bipush 7, 2), (7, .if_icmp .ge 7, 3), (10, .iconst 1, 1), (11, .goto 4, 3), (14, .iconst 0, 1), (15, .ireturn, 1)], 2, 0, 0)
def cm22 : Me := ("validRound", "(I)Z", 1, 2, [(0, .iload_n 1, 1), (1, .iconst 1, 1), (2, .if_icmp .lt 15, 3), (5, .iload_n 1, 1), (6, .aload_n 0, 1), (7, .getfield 52, 3), (10, .if_icmp .gt 7, 3), (13, .iconst 1, 1), (14, .goto 4, 3), (17, .iconst 0, 1), (18, .ireturn, 1)], 2, 0, 0)
def cm23 : Me := ("validPhase", "(I)Z", 1, 2, [(0, .iload_n 1, 1), (1, .ifCond .eq 8, 3), (4, .iload_n 1, 1), (5, .iconst 1, 1), (6, .if_icmp .ne 7, 3), (9, .iconst 1, 1), (10, .goto 4, 3), (13, .iconst 0, 1), (14, .ireturn, 1)], 2, 0, 0)
def cm24 : Me := ("validInputValue", "(I)Z", 1, 2, [(0, .iload_n 1, 1), (1, .ifCond .eq 8, 3), (4, .iload_n 1, 1), (5, .iconst 1, 1), (6, .if_icmp .ne 7, 3), (9, .iconst 1, 1), (10, .goto 4, 3), (13, .iconst 0, 1), (14, .ireturn, 1)], 2, 0, 0)
def cm25 : Me := ("validMessageValue", "(I)Z", 1, 2, [(0, .iload_n 1, 1), (1, .ifCond .eq 13, 3), (4, .iload_n 1, 1), (5, .iconst 1, 1), (6, .if_icmp .eq 8, 3), (9, .iload_n 1, 1), (10, .iconst 2, 1), (11, .if_icmp .ne 7, 3), (14, .iconst 1, 1), (15, .goto 4, 3), (18, .iconst 0, 1), (19, .ireturn, 1)], 2, 0, 0)
def cm26 : Me := ("bitSet", "(II)Z", 2, 2, [(0, .iload_n 1, 1), (1, .iload_n 2, 1), (2, .iushr, 1), (3, .iconst 1, 1), (4, .iand, 1), (5, .iconst 1, 1), (6, .if_icmp .ne 7, 3), (9, .iconst 1, 1), (10, .goto 4, 3), (13, .iconst 0, 1), (14, .ireturn, 1)], 3, 0, 0)
def cm27 : Me := ("hasInput", "(I)Z", 1, 2, [(0, .aload_n 0, 1), (1, .getfield 13, 3), (4, .iload_n 1, 1), (5, .iaload, 1), (6, .iconst (-1), 1), (7, .if_icmp .eq 7, 3), (10, .iconst 1, 1), (11, .goto 4, 3), (14, .iconst 0, 1), (15, .ireturn, 1)], 2, 0, 0)
def cm28 : Me := ("composeSeed", "(II)J", 2, 3, [(0, .iload_n 1, 1), (1, .i2l, 1), (2, .bipush 32, 2), (4, .lshl, 1), (5, .lstore_n 3, 1), (6, .iload_n 2, 1), (7, .i2l, 1), (8, .ldc2_w 116, 3), (11, .land, 1), (12, .lstore 5, 2), (14, .lload_n 3, 1), (15, .lload 5, 2), (17, .lor, 1), (18, .lreturn, 1)], 7, 0, 0)
def cm29 : Me := ("sentIndex", "(III)I", 3, 1, [(0, .iload_n 1, 1), (1, .bipush 8, 2), (3, .imul, 1), (4, .iload_n 2, 1), (5, .iconst 1, 1), (6, .isub, 1), (7, .iadd, 1), (8, .iconst 2, 1), (9, .imul, 1), (10, .iload_n 3, 1), (11, .iadd, 1), (12, .ireturn, 1)], 4, 0, 0)
def cm30 : Me := ("copyIndex", "(IIII)I", 4, 1, [(0, .iload_n 1, 1), (1, .bipush 7, 2), (3, .imul, 1), (4, .iload_n 2, 1), (5, .iadd, 1), (6, .bipush 8, 2), (8, .imul, 1), (9, .iload_n 3, 1), (10, .iconst 1, 1), (11, .isub, 1), (12, .iadd, 1), (13, .iconst 2, 1), (14, .imul, 1), (15, .iload 4, 2), (17, .iadd, 1), (18, .ireturn, 1)], 5, 0, 0)
def cm31 : Me := ("validSlot", "(IIII)Z", 4, 2, [(0, .aload_n 0, 1), (1, .iload_n 1, 1), (2, .invokevirtual 67, 3), (5, .ifCond .ne 5, 3), (8, .iconst 0, 1), (9, .ireturn, 1), (10, .aload_n 0, 1), (11, .iload_n 2, 1), (12, .invokevirtual 67, 3), (15, .ifCond .ne 5, 3), (18, .iconst 0, 1), (19, .ireturn, 1), (20, .aload_n 0, 1), (21, .iload_n 3, 1), (22, .invokevirtual 86, 3), (25, .ifCond .ne 5, 3), (28, .iconst 0, 1), (29, .ireturn, 1), (30, .aload_n 0, 1), (31, .iload 4, 2), (33, .invokevirtual 89, 3), (36, .ireturn, 1)], 5, 1, 13)
def cm32 : Me := ("readSent", "(III)I", 3, 1, [(0, .aload_n 0, 1), (1, .iload_n 1, 1), (2, .iconst 0, 1), (3, .iload_n 2, 1), (4, .iload_n 3, 1), (5, .invokevirtual 118, 3), (8, .ifCond .ne 5, 3), (11, .iconst (-1), 1), (12, .ireturn, 1), (13, .aload_n 0, 1), (14, .getfield 38, 3), (17, .aload_n 0, 1), (18, .iload_n 1, 1), (19, .iload_n 2, 1), (20, .iload_n 3, 1), (21, .invokevirtual 122, 3), (24, .iaload, 1), (25, .ireturn, 1)], 4, 2, 29)
def cm33 : Me := ("writeSent", "(IIII)V", 4, 0, [(0, .aload_n 0, 1), (1, .iload_n 1, 1), (2, .iconst 0, 1), (3, .iload_n 2, 1), (4, .iload_n 3, 1), (5, .invokevirtual 118, 3), (8, .ifCond .ne 4, 3), (11, .return_, 1), (12, .aload_n 0, 1), (13, .getfield 38, 3), (16, .aload_n 0, 1), (17, .iload_n 1, 1), (18, .iload_n 2, 1), (19, .iload_n 3, 1), (20, .invokevirtual 122, 3), (23, .iload 4, 2), (25, .iastore, 1), (26, .return_, 1)], 5, 2, 29)
def cm34 : Me := ("readCopy", "(IIII)I", 4, 1, [(0, .aload_n 0, 1), (1, .iload_n 1, 1), (2, .iload_n 2, 1), (3, .iload_n 3, 1), (4, .iload 4, 2), (6, .invokevirtual 118, 3), (9, .ifCond .ne 5, 3), (12, .iconst (-1), 1), (13, .ireturn, 1), (14, .aload_n 0, 1), (15, .getfield 41, 3), (18, .aload_n 0, 1), (19, .iload_n 1, 1), (20, .iload_n 2, 1), (21, .iload_n 3, 1), (22, .iload 4, 2), (24, .invokevirtual 125, 3), (27, .iaload, 1), (28, .ireturn, 1)], 5, 2, 29)
def cm35 : Me := ("writeCopy", "(IIIII)V", 5, 0, [(0, .aload_n 0, 1), (1, .iload_n 1, 1), (2, .iload_n 2, 1), (3, .iload_n 3, 1), (4, .iload 4, 2), (6, .invokevirtual 118, 3), (9, .ifCond .ne 4, 3), (12, .return_, 1), (13, .aload_n 0, 1), (14, .getfield 41, 3), (17, .aload_n 0, 1), (18, .iload_n 1, 1), (19, .iload_n 2, 1), (20, .iload_n 3, 1), (21, .iload 4, 2), (23, .invokevirtual 125, 3), (26, .iload 5, 2), (28, .iastore, 1), (29, .return_, 1)], 6, 2, 29)
def cm36 : Me := ("broadcast", "(IIII)V", 4, 0, [(0, .aload_n 0, 1), (1, .iload 4, 2), (3, .invokevirtual 128, 3), (6, .ifCond .ne 4, 3), (9, .return_, 1), (10, .aload_n 0, 1), (11, .iload_n 1, 1), (12, .iload_n 2, 1), (13, .iload_n 3, 1), (14, .iload 4, 2), (16, .invokevirtual 131, 3), (19, .iconst 0, 1), (20, .istore 5, 2), (22, .iload 5, 2), (24, .bipush 7, 2), (26, .if_icmp .ge 19, 3), (29, .aload_n 0, 1), (30, .iload_n 1, 1), (31, .iload 5, 2), (33, .iload_n 2, 1), (34, .iload_n 3, 1), (35, .iconst 1, 1), (36, .invokevirtual 134, 3), (39, .iinc 5 1, 3), (42, .goto (-20), 3), (45, .return_, 1)], 6, 3, 46)
def cm38 : Me := ("deliverToReceiver", "(IIII)I", 4, 1, [(0, .iconst 0, 1), (1, .istore 5, 2), (3, .iconst 0, 1), (4, .istore 6, 2), (6, .iload 6, 2), (8, .bipush 7, 2), (10, .if_icmp .ge 35, 3), (13, .aload_n 0, 1), (14, .iload_n 1, 1), (15, .iload 6, 2), (17, .invokevirtual 92, 3), (20, .ifCond .eq 19, 3), (23, .aload_n 0, 1), (24, .iload 6, 2), (26, .iload_n 2, 1), (27, .iload_n 3, 1), (28, .iload 4, 2), (30, .invokevirtual 138, 3), (33, .ifCond .eq 6, 3), (36, .iinc 5 1, 3), (39, .iinc 6 1, 3), (42, .goto (-36), 3), (45, .iload 5, 2), (47, .ireturn, 1)], 7, 8, 128)
def cm39 : Me := ("deliverPair", "(IIII)Z", 4, 2, [(0, .aload_n 0, 1), (1, .getfield 7, 3), (4, .iload_n 2, 1), (5, .iaload, 1), (6, .iconst 3, 1), (7, .if_icmp .ne 5, 3), (10, .iconst 0, 1), (11, .ireturn, 1), (12, .aload_n 0, 1), (13, .iload_n 1, 1), (14, .iload_n 2, 1), (15, .iload_n 3, 1), (16, .iload 4, 2), (18, .invokevirtual 110, 3), (21, .iconst 1, 1), (22, .if_icmp .eq 5, 3), (25, .iconst 0, 1), (26, .ireturn, 1), (27, .aload_n 0, 1), (28, .iload_n 1, 1), (29, .iload_n 2, 1), (30, .iload_n 3, 1), (31, .iload 4, 2), (33, .iconst 2, 1), (34, .invokevirtual 134, 3), (37, .aload_n 0, 1), (38, .iload_n 2, 1), (39, .invokevirtual 82, 3), (42, .iconst 1, 1), (43, .ireturn, 1)], 5, 7, 112)
def cm40 : Me := ("heldCount", "(III)I", 3, 1, [(0, .iconst 0, 1), (1, .istore 4, 2), (3, .iconst 0, 1), (4, .istore 5, 2), (6, .iload 5, 2), (8, .bipush 7, 2), (10, .if_icmp .ge 25, 3), (13, .aload_n 0, 1), (14, .iload 5, 2), (16, .iload_n 1, 1), (17, .iload_n 2, 1), (18, .iload_n 3, 1), (19, .invokevirtual 110, 3), (22, .iconst 2, 1), (23, .if_icmp .ne 6, 3), (26, .iinc 4 1, 3), (29, .iinc 5 1, 3), (32, .goto (-26), 3), (35, .iload 4, 2), (37, .ireturn, 1)], 6, 3, 45)
def cm41 : Me := ("heldValueCount", "(IIII)I", 4, 1, [(0, .iconst 0, 1), (1, .istore 5, 2), (3, .iconst 0, 1), (4, .istore 6, 2), (6, .iload 6, 2), (8, .bipush 7, 2), (10, .if_icmp .ge 38, 3), (13, .aload_n 0, 1), (14, .iload 6, 2), (16, .iload_n 1, 1), (17, .iload_n 2, 1), (18, .iload_n 3, 1), (19, .invokevirtual 110, 3), (22, .iconst 2, 1), (23, .if_icmp .ne 19, 3), (26, .aload_n 0, 1), (27, .iload 6, 2), (29, .iload_n 2, 1), (30, .iload_n 3, 1), (31, .invokevirtual 107, 3), (34, .iload 4, 2), (36, .if_icmp .ne 6, 3), (39, .iinc 5 1, 3), (42, .iinc 6 1, 3), (45, .goto (-39), 3), (48, .iload 5, 2), (50, .ireturn, 1)], 7, 3, 45)
def cm42 : Me := ("step", "(I)V", 1, 0, [(0, .aload_n 0, 1), (1, .iload_n 1, 1), (2, .invokevirtual 67, 3), (5, .ifCond .ne 4, 3), (8, .return_, 1), (9, .iconst 2, 1), (10, .aload_n 0, 1), (11, .getfield 52, 3), (14, .imul, 1), (15, .iconst 2, 1), (16, .iadd, 1), (17, .istore_n 2, 1), (18, .iconst 0, 1), (19, .istore_n 3, 1), (20, .iload_n 3, 1), (21, .iload_n 2, 1), (22, .if_icmp .ge 18, 3), (25, .aload_n 0, 1), (26, .iload_n 1, 1), (27, .invokevirtual 141, 3), (30, .ifCond .ne 4, 3), (33, .return_, 1), (34, .iinc 3 1, 3), (37, .goto (-17), 3), (40, .return_, 1)], 4, 6, 97)
def cm43 : Me := ("stepOnce", "(I)Z", 1, 2, [(0, .aload_n 0, 1), (1, .getfield 7, 3), (4, .iload_n 1, 1), (5, .iaload, 1), (6, .iconst 1, 1), (7, .if_icmp .eq 5, 3), (10, .iconst 0, 1), (11, .ireturn, 1), (12, .aload_n 0, 1), (13, .getfield 19, 3), (16, .iload_n 1, 1), (17, .iaload, 1), (18, .istore_n 2, 1), (19, .aload_n 0, 1), (20, .getfield 22, 3), (23, .iload_n 1, 1), (24, .iaload, 1), (25, .istore_n 3, 1), (26, .aload_n 0, 1), (27, .iload_n 2, 1), (28, .invokevirtual 86, 3), (31, .ifCond .eq 11, 3), (34, .aload_n 0, 1), (35, .iload_n 3, 1), (36, .invokevirtual 89, 3), (39, .ifCond .ne 5, 3), (42, .iconst 0, 1), (43, .ireturn, 1), (44, .aload_n 0, 1), (45, .iload_n 1, 1), (46, .iload_n 2, 1), (47, .iload_n 3, 1), (48, .invokevirtual 144, 3), (51, .aload_n 0, 1), (52, .getfield 55, 3), (55, .if_icmp .ge 5, 3), (58, .iconst 0, 1), (59, .ireturn, 1), (60, .aload_n 0, 1), (61, .iload_n 1, 1), (62, .iload_n 2, 1), (63, .iload_n 3, 1), (64, .iconst 0, 1), (65, .invokevirtual 147, 3), (68, .istore 4, 2), (70, .aload_n 0, 1), (71, .iload_n 1, 1), (72, .iload_n 2, 1), (73, .iload_n 3, 1), (74, .iconst 1, 1), (75, .invokevirtual 147, 3), (78, .istore 5, 2), (80, .iload_n 3, 1), (81, .ifCond .ne 15, 3), (84, .aload_n 0, 1), (85, .iload_n 1, 1), (86, .iload_n 2, 1), (87, .iload 4, 2), (89, .iload 5, 2), (91, .invokevirtual 150, 3), (94, .iconst 1, 1), (95, .ireturn, 1), (96, .aload_n 0, 1), (97, .iload_n 1, 1), (98, .iload_n 2, 1), (99, .iload 4, 2), (101, .iload 5, 2), (103, .invokevirtual 153, 3), (106, .ireturn, 1)], 6, 5, 80)
def cm44 : Me := ("reportOutcome", "(II)I", 2, 1, [(0, .iconst 2, 1), (1, .iload_n 1, 1), (2, .imul, 1), (3, .bipush 7, 2), (5, .if_icmp .le 5, 3), (8, .iconst 0, 1), (9, .ireturn, 1), (10, .iconst 2, 1), (11, .iload_n 2, 1), (12, .imul, 1), (13, .bipush 7, 2), (15, .if_icmp .le 5, 3), (18, .iconst 1, 1), (19, .ireturn, 1), (20, .iconst 2, 1), (21, .ireturn, 1)], 3, 0, 0)
def cm45 : Me := ("proposalOutcome", "(II)I", 2, 1, [(0, .iload_n 1, 1), (1, .iconst 1, 1), (2, .if_icmp .lt 10, 3), (5, .iload_n 1, 1), (6, .iload_n 2, 1), (7, .if_icmp .lt 5, 3), (10, .iconst 0, 1), (11, .ireturn, 1), (12, .iload_n 2, 1), (13, .iconst 1, 1), (14, .if_icmp .lt 5, 3), (17, .iconst 1, 1), (18, .ireturn, 1), (19, .iconst (-1), 1), (20, .ireturn, 1)], 3, 0, 0)
def cm46 : Me := ("countFor", "(III)I", 3, 1, [(0, .iload_n 1, 1), (1, .ifCond .ne 5, 3), (4, .iload_n 2, 1), (5, .ireturn, 1), (6, .iload_n 3, 1), (7, .ireturn, 1)], 4, 0, 0)
def cm47 : Me := ("finishReportPhase", "(IIII)V", 4, 0, [(0, .aload_n 0, 1), (1, .iload_n 3, 1), (2, .iload 4, 2), (4, .invokevirtual 156, 3), (7, .istore 5, 2), (9, .aload_n 0, 1), (10, .iload_n 1, 1), (11, .iload_n 2, 1), (12, .iconst 1, 1), (13, .iload 5, 2), (15, .invokevirtual 78, 3), (18, .aload_n 0, 1), (19, .getfield 22, 3), (22, .iload_n 1, 1), (23, .iconst 1, 1), (24, .iastore, 1), (25, .return_, 1)], 6, 4, 63)
def cm48 : Me := ("finishProposalPhase", "(IIII)Z", 4, 2, [(0, .aload_n 0, 1), (1, .iload_n 3, 1), (2, .iload 4, 2), (4, .invokevirtual 160, 3), (7, .istore 5, 2), (9, .iload 5, 2), (11, .iconst (-1), 1), (12, .if_icmp .ne 11, 3), (15, .aload_n 0, 1), (16, .iload_n 1, 1), (17, .invokevirtual 163, 3), (20, .goto 24, 3), (23, .aload_n 0, 1), (24, .iload 5, 2), (26, .iload_n 3, 1), (27, .iload 4, 2), (29, .invokevirtual 166, 3), (32, .istore 6, 2), (34, .aload_n 0, 1), (35, .iload_n 1, 1), (36, .iload_n 2, 1), (37, .iload 5, 2), (39, .iload 6, 2), (41, .invokevirtual 169, 3), (44, .iload_n 2, 1), (45, .aload_n 0, 1), (46, .getfield 52, 3), (49, .if_icmp .ne 12, 3), (52, .aload_n 0, 1), (53, .getfield 7, 3), (56, .iload_n 1, 1), (57, .iconst 2, 1), (58, .iastore, 1), (59, .iconst 0, 1), (60, .ireturn, 1), (61, .aload_n 0, 1), (62, .iload_n 1, 1), (63, .iload_n 2, 1), (64, .iconst 1, 1), (65, .iadd, 1), (66, .invokevirtual 172, 3), (69, .iconst 1, 1), (70, .ireturn, 1)], 7, 1, 16)
def cm49 : Me := ("adoptValue", "(IIII)V", 4, 0, [(0, .aload_n 0, 1), (1, .getfield 25, 3), (4, .iload_n 1, 1), (5, .iaload, 1), (6, .iconst (-1), 1), (7, .if_icmp .ne 28, 3), (10, .iload 4, 2), (12, .aload_n 0, 1), (13, .getfield 48, 3), (16, .iconst 1, 1), (17, .iadd, 1), (18, .if_icmp .lt 17, 3), (21, .aload_n 0, 1), (22, .getfield 25, 3), (25, .iload_n 1, 1), (26, .iload_n 3, 1), (27, .iastore, 1), (28, .aload_n 0, 1), (29, .getfield 28, 3), (32, .iload_n 1, 1), (33, .iload_n 2, 1), (34, .iastore, 1), (35, .aload_n 0, 1), (36, .getfield 16, 3), (39, .iload_n 1, 1), (40, .iload_n 3, 1), (41, .iastore, 1), (42, .return_, 1)], 5, 0, 0)
def cm50 : Me := ("drawCoin", "(I)V", 1, 0, [(0, .aload_n 0, 1), (1, .getfield 31, 3), (4, .iload_n 1, 1), (5, .laload, 1), (6, .ldc2_w 175, 3), (9, .lmul, 1), (10, .ldc2_w 177, 3), (13, .ladd, 1), (14, .lstore_n 2, 1), (15, .aload_n 0, 1), (16, .getfield 31, 3), (19, .iload_n 1, 1), (20, .lload_n 2, 1), (21, .lastore, 1), (22, .aload_n 0, 1), (23, .getfield 16, 3), (26, .iload_n 1, 1), (27, .lload_n 2, 1), (28, .bipush 63, 2), (30, .lushr, 1), (31, .l2i, 1), (32, .iastore, 1), (33, .aload_n 0, 1), (34, .getfield 35, 3), (37, .iload_n 1, 1), (38, .aload_n 0, 1), (39, .getfield 35, 3), (42, .iload_n 1, 1), (43, .iaload, 1), (44, .iconst 1, 1), (45, .iadd, 1), (46, .iastore, 1), (47, .return_, 1)], 4, 0, 0)
def PP : Cl := ("RandomConsensus", [(19, ("faultLimit", "I", 0, false)), (20, ("roundLimit", "I", 0, false)), (21, ("quorum", "I", 0, false)), (22, ("crashTotal", "I", 0, false)), (23, ("procStatus", "[I", 3, false)), (24, ("procInput", "[I", 4, false)), (25, ("procEstimate", "[I", 5, false)), (26, ("procRound", "[I", 6, false)), (27, ("procPhase", "[I", 7, false)), (28, ("procDecision", "[I", 8, false)), (29, ("procDecisionRound", "[I", 9, false)), (30, ("procCoin", "[J", 10, false)), (31, ("procFlips", "[I", 11, false)), (32, ("sentValues", "[I", 12, false)), (33, ("copyStates", "[I", 13, false))], [(0, 7), (0, 7), (0, 7), (0, 7), (0, 7), (0, 7), (0, 7), (2, 7), (0, 7), (0, 112), (0, 784)], [(7, 23), (13, 24), (16, 25), (19, 26), (22, 27), (25, 28), (28, 29), (31, 30), (35, 31), (38, 32), (41, 33), (48, 19), (52, 20), (55, 21), (58, 22)], [(44, 20), (61, 17), (64, 19), (67, 21), (71, 24), (74, 28), (78, 36), (82, 42), (86, 22), (89, 23), (92, 26), (96, 38), (104, 27), (107, 32), (110, 34), (113, 18), (118, 31), (122, 29), (125, 30), (128, 25), (131, 33), (134, 35), (138, 39), (141, 43), (144, 40), (147, 41), (150, 47), (153, 48), (156, 44), (160, 45), (163, 50), (166, 46), (169, 49)], [(116, .long (4294967295 : Int64)), (175, .long (6364136223846793005 : Int64)), (177, .long (1442695040888963407 : Int64))], [(0, cm0), (2, cm2), (3, cm3), (5, cm5), (8, cm8), (10, cm10), (11, cm11), (12, cm12), (14, cm14), (15, cm15), (17, cm17), (18, cm18), (19, cm19), (20, cm20), (21, cm21), (22, cm22), (23, cm23), (24, cm24), (25, cm25), (26, cm26), (27, cm27), (28, cm28), (29, cm29), (30, cm30), (31, cm31), (32, cm32), (33, cm33), (34, cm34), (35, cm35), (36, cm36), (38, cm38), (39, cm39), (40, cm40), (41, cm41), (42, cm42), (43, cm43), (44, cm44), (45, cm45), (46, cm46), (47, cm47), (48, cm48), (49, cm49), (50, cm50)], 1)
def lm0 : Me := ("law", "(IIIIII)Z", 6, 2, [(0, .new 7, 3), (3, .dup, 1), (4, .iconst 3, 1), (5, .iconst 1, 1), (6, .invokespecial 9, 3), (9, .astore 6, 2), (11, .iload_n 0, 1), (12, .iconst 1, 1), (13, .iand, 1), (14, .istore 7, 2), (16, .iload_n 1, 1), (17, .iconst 1, 1), (18, .iand, 1), (19, .istore 8, 2), (21, .iload_n 2, 1), (22, .iconst 1, 1), (23, .iand, 1), (24, .istore 9, 2), (26, .iload_n 3, 1), (27, .iconst 1, 1), (28, .iand, 1), (29, .istore 10, 2), (31, .aload 6, 2), (33, .iconst 0, 1), (34, .iload 7, 2), (36, .iload 4, 2), (38, .iload 5, 2), (40, .invokevirtual 12, 3), (43, .ifCond .ne 5, 3), (46, .iconst 0, 1), (47, .ireturn, 1), (48, .aload 6, 2), (50, .iconst 1, 1), (51, .iload 8, 2), (53, .iload 4, 2), (55, .iload 5, 2), (57, .invokevirtual 12, 3), (60, .ifCond .ne 5, 3), (63, .iconst 0, 1), (64, .ireturn, 1), (65, .aload 6, 2), (67, .iconst 2, 1), (68, .iload 9, 2), (70, .iload 4, 2), (72, .iload 5, 2), (74, .invokevirtual 12, 3), (77, .ifCond .ne 5, 3), (80, .iconst 0, 1), (81, .ireturn, 1), (82, .aload 6, 2), (84, .iconst 3, 1), (85, .iload 10, 2), (87, .iload 4, 2), (89, .iload 5, 2), (91, .invokevirtual 12, 3), (94, .ifCond .ne 5, 3), (97, .iconst 0, 1), (98, .ireturn, 1), (99, .aload 6, 2), (101, .bipush 15, 2), (103, .bipush 15, 2), (105, .iconst 1, 1), (106, .iconst 0, 1), (107, .invokevirtual 16, 3), (110, .istore 11, 2), (112, .iload 11, 2), (114, .bipush 16, 2), (116, .if_icmp .eq 5, 3), (119, .iconst 0, 1), (120, .ireturn, 1), (121, .aload 6, 2), (123, .bipush 15, 2), (125, .bipush 15, 2), (127, .iconst 1, 1), (128, .iconst 1, 1), (129, .invokevirtual 16, 3), (132, .istore 12, 2), (134, .iload 12, 2), (136, .bipush 16, 2), (138, .if_icmp .eq 5, 3), (141, .iconst 0, 1), (142, .ireturn, 1), (143, .iload 7, 2), (145, .iload 8, 2), (147, .iadd, 1), (148, .iload 9, 2), (150, .iadd, 1), (151, .iload 10, 2), (153, .iadd, 1), (154, .istore 13, 2), (156, .iload 13, 2), (158, .ifCond .ne 7, 3), (161, .iconst 0, 1), (162, .goto 14, 3), (165, .iload 13, 2), (167, .iconst 4, 1), (168, .if_icmp .ne 7, 3), (171, .iconst 1, 1), (172, .goto 4, 3), (175, .iconst 2, 1), (176, .istore 14, 2), (178, .iload 4, 2), (180, .i2l, 1), (181, .bipush 32, 2), (183, .lshl, 1), (184, .iload 5, 2), (186, .i2l, 1), (187, .ldc2_w 20, 3), (190, .land, 1), (191, .lor, 1), (192, .lstore 15, 2), (194, .lload 15, 2), (196, .ldc2_w 22, 3), (199, .lmul, 1), (200, .ldc2_w 24, 3), (203, .ladd, 1), (204, .lstore 17, 2), (206, .lload 17, 2), (208, .bipush 63, 2), (210, .lushr, 1), (211, .l2i, 1), (212, .istore 19, 2), (214, .iload 14, 2), (216, .iconst 2, 1), (217, .if_icmp .ne 7, 3), (220, .iconst (-1), 1), (221, .goto 5, 3), (224, .iload 14, 2), (226, .istore 20, 2), (228, .iload 14, 2), (230, .iconst 2, 1), (231, .if_icmp .ne 7, 3), (234, .iconst 0, 1), (235, .goto 4, 3), (238, .iconst 1, 1), (239, .istore 21, 2), (241, .iload 14, 2), (243, .iconst 2, 1), (244, .if_icmp .ne 8, 3), (247, .iload 19, 2), (249, .goto 5, 3), (252, .iload 14, 2), (254, .istore 22, 2), (256, .iload 14, 2), (258, .iconst 2, 1), (259, .if_icmp .ne 7, 3), (262, .iconst 1, 1), (263, .goto 4, 3), (266, .iconst 0, 1), (267, .istore 23, 2), (269, .iload 14, 2), (271, .iconst 2, 1), (272, .if_icmp .ne 8, 3), (275, .lload 17, 2), (277, .goto 5, 3), (280, .lload 15, 2), (282, .lstore 24, 2), (284, .iconst 0, 1), (285, .istore 26, 2), (287, .iload 26, 2), (289, .iconst 4, 1), (290, .if_icmp .ge 131, 3), (293, .aload 6, 2), (295, .iload 26, 2), (297, .invokevirtual 26, 3), (300, .istore 27, 2), (302, .aload 6, 2), (304, .iload 26, 2), (306, .iconst 1, 1), (307, .iconst 1, 1), (308, .invokevirtual 30, 3), (311, .istore 28, 2), (313, .aload 6, 2), (315, .iload 26, 2), (317, .invokevirtual 34, 3), (320, .istore 29, 2), (322, .aload 6, 2), (324, .iload 26, 2), (326, .invokevirtual 37, 3), (329, .istore 30, 2), (331, .aload 6, 2), (333, .iload 26, 2), (335, .invokevirtual 40, 3), (338, .istore 31, 2), (340, .aload 6, 2), (342, .iload 26, 2), (344, .invokevirtual 43, 3), (347, .istore 32, 2), (349, .aload 6, 2), (351, .iload 26, 2), (353, .invokevirtual 46, 3), (356, .lstore 33, 2), (358, .iload 27, 2), (360, .iconst 2, 1), (361, .if_icmp .eq 5, 3), (364, .iconst 0, 1), (365, .ireturn, 1), (366, .iload 28, 2), (368, .iload 14, 2), (370, .if_icmp .eq 5, 3), (373, .iconst 0, 1), (374, .ireturn, 1), (375, .iload 29, 2), (377, .iload 20, 2), (379, .if_icmp .ne 10, 3), (382, .iload 30, 2), (384, .iload 21, 2), (386, .if_icmp .eq 5, 3), (389, .iconst 0, 1), (390, .ireturn, 1), (391, .iload 31, 2), (393, .iload 22, 2), (395, .if_icmp .ne 18, 3), (398, .iload 32, 2), (400, .iload 23, 2), (402, .if_icmp .ne 11, 3), (405, .lload 33, 2), (407, .lload 24, 2), (409, .lcmp, 1), (410, .ifCond .eq 5, 3), (413, .iconst 0, 1), (414, .ireturn, 1), (415, .iinc 26 1, 3), (418, .goto (-131), 3), (421, .iconst 1, 1), (422, .ireturn, 1)], 35, 13, 304)
def QQ : Lw := ("RandomConsensusL3", [], [(12, 2), (16, 3), (26, 5), (30, 12), (34, 10), (37, 11), (40, 8), (43, 14), (46, 15)], 9, 7, 15, [(20, .long (4294967295 : Int64)), (22, .long (6364136223846793005 : Int64)), (24, .long (1442695040888963407 : Int64))], [(0, lm0)], 32, 2048)
set_option maxRecDepth 100000
set_option maxHeartbeats 1000000
theorem dk_c0 : chk prog_1_method_1_code cm0.cd = true := by decide +kernel
theorem dk_c20 : chk prog_1_method_20_code cm20.cd = true := by decide +kernel
theorem dk_c17 : chk prog_1_method_17_code cm17.cd = true := by decide +kernel
theorem dk_c18 : chk prog_1_method_18_code cm18.cd = true := by decide +kernel
theorem dk_c21 : chk prog_1_method_21_code cm21.cd = true := by decide +kernel
theorem dk_c19 : chk prog_1_method_19_code cm19.cd = true := by decide +kernel
theorem dk_c2 : chk prog_1_method_2_code cm2.cd = true := by decide +kernel
theorem dk_c24 : chk prog_1_method_24_code cm24.cd = true := by decide +kernel
theorem dk_c28 : chk prog_1_method_28_code cm28.cd = true := by decide +kernel
theorem dk_c36 : chk prog_1_method_36_code cm36.cd = true := by decide +kernel
theorem dk_c25 : chk prog_1_method_25_code cm25.cd = true := by decide +kernel
theorem dk_c33 : chk prog_1_method_33_code cm33.cd = true := by decide +kernel
theorem dk_c31 : chk prog_1_method_31_code cm31.cd = true := by decide +kernel
theorem dk_c22 : chk prog_1_method_22_code cm22.cd = true := by decide +kernel
theorem dk_c23 : chk prog_1_method_23_code cm23.cd = true := by decide +kernel
theorem dk_c29 : chk prog_1_method_29_code cm29.cd = true := by decide +kernel
theorem dk_c35 : chk prog_1_method_35_code cm35.cd = true := by decide +kernel
theorem dk_c30 : chk prog_1_method_30_code cm30.cd = true := by decide +kernel
theorem dk_c42 : chk prog_1_method_42_code cm42.cd = true := by decide +kernel
theorem dk_c43 : chk prog_1_method_43_code cm43.cd = true := by decide +kernel
theorem dk_c40 : chk prog_1_method_40_code cm40.cd = true := by decide +kernel
theorem dk_c34 : chk prog_1_method_34_code cm34.cd = true := by decide +kernel
theorem dk_c3 : chk prog_1_method_3_code cm3.cd = true := by decide +kernel
theorem dk_c26 : chk prog_1_method_26_code cm26.cd = true := by decide +kernel
theorem dk_c38 : chk prog_1_method_38_code cm38.cd = true := by decide +kernel
theorem dk_c39 : chk prog_1_method_39_code cm39.cd = true := by decide +kernel
theorem dk_c41 : chk prog_1_method_41_code cm41.cd = true := by decide +kernel
theorem dk_c32 : chk prog_1_method_32_code cm32.cd = true := by decide +kernel
theorem dk_c47 : chk prog_1_method_47_code cm47.cd = true := by decide +kernel
theorem dk_c44 : chk prog_1_method_44_code cm44.cd = true := by decide +kernel
theorem dk_c48 : chk prog_1_method_48_code cm48.cd = true := by decide +kernel
theorem dk_c45 : chk prog_1_method_45_code cm45.cd = true := by decide +kernel
theorem dk_c50 : chk prog_1_method_50_code cm50.cd = true := by decide +kernel
theorem dk_c5 : chk prog_1_method_5_code cm5.cd = true := by decide +kernel
theorem dk_c12 : chk prog_1_method_12_code cm12.cd = true := by decide +kernel
theorem dk_c10 : chk prog_1_method_10_code cm10.cd = true := by decide +kernel
theorem dk_c11 : chk prog_1_method_11_code cm11.cd = true := by decide +kernel
theorem dk_c8 : chk prog_1_method_8_code cm8.cd = true := by decide +kernel
theorem dk_c27 : chk prog_1_method_27_code cm27.cd = true := by decide +kernel
theorem dk_c14 : chk prog_1_method_14_code cm14.cd = true := by decide +kernel
theorem dk_c15 : chk prog_1_method_15_code cm15.cd = true := by decide +kernel
theorem dk_c46 : chk prog_1_method_46_code cm46.cd = true := by decide +kernel
theorem dk_c49 : chk prog_1_method_49_code cm49.cd = true := by decide +kernel
theorem dk_l0 : chk code lm0.cd = true := by decide +kernel
theorem pk_c0 : parseMethodDescriptor "(II)V" = some ⟨[.int, .int], none⟩ := by decide +kernel
theorem pk_c20 : parseMethodDescriptor "(III)I" = some ⟨[.int, .int, .int], some .int⟩ := by decide +kernel
theorem pk_c17 : parseMethodDescriptor "()V" = some ⟨[], none⟩ := by decide +kernel
theorem pk_c18 : parseMethodDescriptor "(I)V" = some ⟨[.int], none⟩ := by decide +kernel
theorem pk_c21 : parseMethodDescriptor "(I)Z" = some ⟨[.int], some .boolean⟩ := by decide +kernel
theorem pk_c19 : parseMethodDescriptor "()V" = some ⟨[], none⟩ := by decide +kernel
theorem pk_c2 : parseMethodDescriptor "(IIII)Z" = some ⟨[.int, .int, .int, .int], some .boolean⟩ := by decide +kernel
theorem pk_c24 : parseMethodDescriptor "(I)Z" = some ⟨[.int], some .boolean⟩ := by decide +kernel
theorem pk_c28 : parseMethodDescriptor "(II)J" = some ⟨[.int, .int], some .long⟩ := by decide +kernel
theorem pk_c36 : parseMethodDescriptor "(IIII)V" = some ⟨[.int, .int, .int, .int], none⟩ := by decide +kernel
theorem pk_c25 : parseMethodDescriptor "(I)Z" = some ⟨[.int], some .boolean⟩ := by decide +kernel
theorem pk_c33 : parseMethodDescriptor "(IIII)V" = some ⟨[.int, .int, .int, .int], none⟩ := by decide +kernel
theorem pk_c31 : parseMethodDescriptor "(IIII)Z" = some ⟨[.int, .int, .int, .int], some .boolean⟩ := by decide +kernel
theorem pk_c22 : parseMethodDescriptor "(I)Z" = some ⟨[.int], some .boolean⟩ := by decide +kernel
theorem pk_c23 : parseMethodDescriptor "(I)Z" = some ⟨[.int], some .boolean⟩ := by decide +kernel
theorem pk_c29 : parseMethodDescriptor "(III)I" = some ⟨[.int, .int, .int], some .int⟩ := by decide +kernel
theorem pk_c35 : parseMethodDescriptor "(IIIII)V" = some ⟨[.int, .int, .int, .int, .int], none⟩ := by decide +kernel
theorem pk_c30 : parseMethodDescriptor "(IIII)I" = some ⟨[.int, .int, .int, .int], some .int⟩ := by decide +kernel
theorem pk_c42 : parseMethodDescriptor "(I)V" = some ⟨[.int], none⟩ := by decide +kernel
theorem pk_c43 : parseMethodDescriptor "(I)Z" = some ⟨[.int], some .boolean⟩ := by decide +kernel
theorem pk_c40 : parseMethodDescriptor "(III)I" = some ⟨[.int, .int, .int], some .int⟩ := by decide +kernel
theorem pk_c34 : parseMethodDescriptor "(IIII)I" = some ⟨[.int, .int, .int, .int], some .int⟩ := by decide +kernel
theorem pk_c3 : parseMethodDescriptor "(IIII)I" = some ⟨[.int, .int, .int, .int], some .int⟩ := by decide +kernel
theorem pk_c26 : parseMethodDescriptor "(II)Z" = some ⟨[.int, .int], some .boolean⟩ := by decide +kernel
theorem pk_c38 : parseMethodDescriptor "(IIII)I" = some ⟨[.int, .int, .int, .int], some .int⟩ := by decide +kernel
theorem pk_c39 : parseMethodDescriptor "(IIII)Z" = some ⟨[.int, .int, .int, .int], some .boolean⟩ := by decide +kernel
theorem pk_c41 : parseMethodDescriptor "(IIII)I" = some ⟨[.int, .int, .int, .int], some .int⟩ := by decide +kernel
theorem pk_c32 : parseMethodDescriptor "(III)I" = some ⟨[.int, .int, .int], some .int⟩ := by decide +kernel
theorem pk_c47 : parseMethodDescriptor "(IIII)V" = some ⟨[.int, .int, .int, .int], none⟩ := by decide +kernel
theorem pk_c44 : parseMethodDescriptor "(II)I" = some ⟨[.int, .int], some .int⟩ := by decide +kernel
theorem pk_c48 : parseMethodDescriptor "(IIII)Z" = some ⟨[.int, .int, .int, .int], some .boolean⟩ := by decide +kernel
theorem pk_c45 : parseMethodDescriptor "(II)I" = some ⟨[.int, .int], some .int⟩ := by decide +kernel
theorem pk_c50 : parseMethodDescriptor "(I)V" = some ⟨[.int], none⟩ := by decide +kernel
theorem pk_c5 : parseMethodDescriptor "(I)I" = some ⟨[.int], some .int⟩ := by decide +kernel
theorem pk_c12 : parseMethodDescriptor "(III)I" = some ⟨[.int, .int, .int], some .int⟩ := by decide +kernel
theorem pk_c10 : parseMethodDescriptor "(I)I" = some ⟨[.int], some .int⟩ := by decide +kernel
theorem pk_c11 : parseMethodDescriptor "(I)I" = some ⟨[.int], some .int⟩ := by decide +kernel
theorem pk_c8 : parseMethodDescriptor "(I)I" = some ⟨[.int], some .int⟩ := by decide +kernel
theorem pk_c27 : parseMethodDescriptor "(I)Z" = some ⟨[.int], some .boolean⟩ := by decide +kernel
theorem pk_c14 : parseMethodDescriptor "(I)I" = some ⟨[.int], some .int⟩ := by decide +kernel
theorem pk_c15 : parseMethodDescriptor "(I)J" = some ⟨[.int], some .long⟩ := by decide +kernel
theorem pk_c46 : parseMethodDescriptor "(III)I" = some ⟨[.int, .int, .int], some .int⟩ := by decide +kernel
theorem pk_c49 : parseMethodDescriptor "(IIII)V" = some ⟨[.int, .int, .int, .int], none⟩ := by decide +kernel
theorem lkC (Z : State) (a0 : Array Value) (hw : ∀ d ∈ tables_1, d.before a0 Z = true) : LinkC PP Z a0 :=
  ⟨⟨⟨15, (hw _ (List.mem_of_getElem? (i := 1) rfl))⟩, (hw _ (List.mem_of_getElem? (i := 2) rfl))⟩,
   asc_all (⟨by intro z h; obtain rfl : ("procStatus", "[I", 3, false) = z := Option.some.inj h; exact (hw _ (List.mem_of_getElem? (i := 10) rfl)), by intro z h; obtain rfl : ("procInput", "[I", 4, false) = z := Option.some.inj h; exact (hw _ (List.mem_of_getElem? (i := 12) rfl)), by intro z h; obtain rfl : ("procEstimate", "[I", 5, false) = z := Option.some.inj h; exact (hw _ (List.mem_of_getElem? (i := 14) rfl)), by intro z h; obtain rfl : ("procRound", "[I", 6, false) = z := Option.some.inj h; exact (hw _ (List.mem_of_getElem? (i := 16) rfl)), by intro z h; obtain rfl : ("procPhase", "[I", 7, false) = z := Option.some.inj h; exact (hw _ (List.mem_of_getElem? (i := 18) rfl)), by intro z h; obtain rfl : ("procDecision", "[I", 8, false) = z := Option.some.inj h; exact (hw _ (List.mem_of_getElem? (i := 20) rfl)), by intro z h; obtain rfl : ("procDecisionRound", "[I", 9, false) = z := Option.some.inj h; exact (hw _ (List.mem_of_getElem? (i := 22) rfl)), by intro z h; obtain rfl : ("procCoin", "[J", 10, false) = z := Option.some.inj h; exact (hw _ (List.mem_of_getElem? (i := 25) rfl)), by intro z h; obtain rfl : ("procFlips", "[I", 11, false) = z := Option.some.inj h; exact (hw _ (List.mem_of_getElem? (i := 27) rfl)), by intro z h; obtain rfl : ("sentValues", "[I", 12, false) = z := Option.some.inj h; exact (hw _ (List.mem_of_getElem? (i := 29) rfl)), by intro z h; obtain rfl : ("copyStates", "[I", 13, false) = z := Option.some.inj h; exact (hw _ (List.mem_of_getElem? (i := 31) rfl)), by intro z h; obtain rfl : ("faultLimit", "I", 0, false) = z := Option.some.inj h; exact (hw _ (List.mem_of_getElem? (i := 37) rfl)), by intro z h; obtain rfl : ("roundLimit", "I", 0, false) = z := Option.some.inj h; exact (hw _ (List.mem_of_getElem? (i := 39) rfl)), by intro z h; obtain rfl : ("quorum", "I", 0, false) = z := Option.some.inj h; exact (hw _ (List.mem_of_getElem? (i := 41) rfl)), by intro z h; obtain rfl : ("crashTotal", "I", 0, false) = z := Option.some.inj h; exact (hw _ (List.mem_of_getElem? (i := 43) rfl)), trivial⟩),
   asc_all (⟨(hw _ (List.mem_of_getElem? (i := 38) rfl)), (hw _ (List.mem_of_getElem? (i := 40) rfl)), (hw _ (List.mem_of_getElem? (i := 42) rfl)), (hw _ (List.mem_of_getElem? (i := 44) rfl)), (hw _ (List.mem_of_getElem? (i := 11) rfl)), (hw _ (List.mem_of_getElem? (i := 13) rfl)), (hw _ (List.mem_of_getElem? (i := 15) rfl)), (hw _ (List.mem_of_getElem? (i := 17) rfl)), (hw _ (List.mem_of_getElem? (i := 19) rfl)), (hw _ (List.mem_of_getElem? (i := 21) rfl)), (hw _ (List.mem_of_getElem? (i := 23) rfl)), (hw _ (List.mem_of_getElem? (i := 26) rfl)), (hw _ (List.mem_of_getElem? (i := 28) rfl)), (hw _ (List.mem_of_getElem? (i := 30) rfl)), (hw _ (List.mem_of_getElem? (i := 32) rfl)), trivial⟩),
   asc_all (⟨(by decide +kernel), (by decide +kernel), (by decide +kernel), (by decide +kernel), (by decide +kernel), (by decide +kernel), (by decide +kernel), (by decide +kernel), (by decide +kernel), (by decide +kernel), (by decide +kernel), (by decide +kernel), (by decide +kernel), (by decide +kernel), (by decide +kernel), trivial⟩),
   dst_ok (by decide +kernel),
   lst_all (⟨⟨by decide, (hw _ (List.mem_of_getElem? (i := 9) rfl))⟩, ⟨by decide, (hw _ (List.mem_of_getElem? (i := 9) rfl))⟩, ⟨by decide, (hw _ (List.mem_of_getElem? (i := 9) rfl))⟩, ⟨by decide, (hw _ (List.mem_of_getElem? (i := 9) rfl))⟩, ⟨by decide, (hw _ (List.mem_of_getElem? (i := 9) rfl))⟩, ⟨by decide, (hw _ (List.mem_of_getElem? (i := 9) rfl))⟩, ⟨by decide, (hw _ (List.mem_of_getElem? (i := 9) rfl))⟩, ⟨by decide, (hw _ (List.mem_of_getElem? (i := 24) rfl))⟩, ⟨by decide, (hw _ (List.mem_of_getElem? (i := 9) rfl))⟩, ⟨by decide, (hw _ (List.mem_of_getElem? (i := 9) rfl))⟩, ⟨by decide, (hw _ (List.mem_of_getElem? (i := 9) rfl))⟩, trivial⟩),
   asc_all (⟨(hw _ (List.mem_of_getElem? (i := 74) rfl)), (hw _ (List.mem_of_getElem? (i := 172) rfl)), (hw _ (List.mem_of_getElem? (i := 173) rfl)), trivial⟩),
   ⟨(hw _ (List.mem_of_getElem? (i := 6) rfl)), (hw _ (List.mem_of_getElem? (i := 7) rfl)), (hw _ (List.mem_of_getElem? (i := 8) rfl))⟩,
   asc_all (⟨⟨prog_1_method_1_code, [.int, .int], (hw _ (List.mem_of_getElem? (i := 5) rfl)), chk_ok dk_c0, pk_c0, rfl⟩, ⟨prog_1_method_2_code, [.int, .int, .int, .int], (hw _ (List.mem_of_getElem? (i := 65) rfl)), chk_ok dk_c2, pk_c2, rfl⟩, ⟨prog_1_method_3_code, [.int, .int, .int, .int], (hw _ (List.mem_of_getElem? (i := 131) rfl)), chk_ok dk_c3, pk_c3, rfl⟩, ⟨prog_1_method_5_code, [.int], (hw _ (List.mem_of_getElem? (i := 181) rfl)), chk_ok dk_c5, pk_c5, rfl⟩, ⟨prog_1_method_8_code, [.int], (hw _ (List.mem_of_getElem? (i := 201) rfl)), chk_ok dk_c8, pk_c8, rfl⟩, ⟨prog_1_method_10_code, [.int], (hw _ (List.mem_of_getElem? (i := 191) rfl)), chk_ok dk_c10, pk_c10, rfl⟩, ⟨prog_1_method_11_code, [.int], (hw _ (List.mem_of_getElem? (i := 196) rfl)), chk_ok dk_c11, pk_c11, rfl⟩, ⟨prog_1_method_12_code, [.int, .int, .int], (hw _ (List.mem_of_getElem? (i := 186) rfl)), chk_ok dk_c12, pk_c12, rfl⟩, ⟨prog_1_method_14_code, [.int], (hw _ (List.mem_of_getElem? (i := 210) rfl)), chk_ok dk_c14, pk_c14, rfl⟩, ⟨prog_1_method_15_code, [.int], (hw _ (List.mem_of_getElem? (i := 215) rfl)), chk_ok dk_c15, pk_c15, rfl⟩, ⟨prog_1_method_17_code, [], (hw _ (List.mem_of_getElem? (i := 48) rfl)), chk_ok dk_c17, pk_c17, rfl⟩, ⟨prog_1_method_18_code, [.int], (hw _ (List.mem_of_getElem? (i := 52) rfl)), chk_ok dk_c18, pk_c18, rfl⟩, ⟨prog_1_method_19_code, [], (hw _ (List.mem_of_getElem? (i := 60) rfl)), chk_ok dk_c19, pk_c19, rfl⟩, ⟨prog_1_method_20_code, [.int, .int, .int], (hw _ (List.mem_of_getElem? (i := 36) rfl)), chk_ok dk_c20, pk_c20, rfl⟩, ⟨prog_1_method_21_code, [.int], (hw _ (List.mem_of_getElem? (i := 56) rfl)), chk_ok dk_c21, pk_c21, rfl⟩, ⟨prog_1_method_22_code, [.int], (hw _ (List.mem_of_getElem? (i := 94) rfl)), chk_ok dk_c22, pk_c22, rfl⟩, ⟨prog_1_method_23_code, [.int], (hw _ (List.mem_of_getElem? (i := 98) rfl)), chk_ok dk_c23, pk_c23, rfl⟩, ⟨prog_1_method_24_code, [.int], (hw _ (List.mem_of_getElem? (i := 69) rfl)), chk_ok dk_c24, pk_c24, rfl⟩, ⟨prog_1_method_25_code, [.int], (hw _ (List.mem_of_getElem? (i := 82) rfl)), chk_ok dk_c25, pk_c25, rfl⟩, ⟨prog_1_method_26_code, [.int, .int], (hw _ (List.mem_of_getElem? (i := 135) rfl)), chk_ok dk_c26, pk_c26, rfl⟩, ⟨prog_1_method_27_code, [.int], (hw _ (List.mem_of_getElem? (i := 205) rfl)), chk_ok dk_c27, pk_c27, rfl⟩, ⟨prog_1_method_28_code, [.int, .int], (hw _ (List.mem_of_getElem? (i := 73) rfl)), chk_ok dk_c28, pk_c28, rfl⟩, ⟨prog_1_method_29_code, [.int, .int, .int], (hw _ (List.mem_of_getElem? (i := 102) rfl)), chk_ok dk_c29, pk_c29, rfl⟩, ⟨prog_1_method_30_code, [.int, .int, .int, .int], (hw _ (List.mem_of_getElem? (i := 110) rfl)), chk_ok dk_c30, pk_c30, rfl⟩, ⟨prog_1_method_31_code, [.int, .int, .int, .int], (hw _ (List.mem_of_getElem? (i := 90) rfl)), chk_ok dk_c31, pk_c31, rfl⟩, ⟨prog_1_method_32_code, [.int, .int, .int], (hw _ (List.mem_of_getElem? (i := 151) rfl)), chk_ok dk_c32, pk_c32, rfl⟩, ⟨prog_1_method_33_code, [.int, .int, .int, .int], (hw _ (List.mem_of_getElem? (i := 86) rfl)), chk_ok dk_c33, pk_c33, rfl⟩, ⟨prog_1_method_34_code, [.int, .int, .int, .int], (hw _ (List.mem_of_getElem? (i := 126) rfl)), chk_ok dk_c34, pk_c34, rfl⟩, ⟨prog_1_method_35_code, [.int, .int, .int, .int, .int], (hw _ (List.mem_of_getElem? (i := 106) rfl)), chk_ok dk_c35, pk_c35, rfl⟩, ⟨prog_1_method_36_code, [.int, .int, .int, .int], (hw _ (List.mem_of_getElem? (i := 78) rfl)), chk_ok dk_c36, pk_c36, rfl⟩, ⟨prog_1_method_38_code, [.int, .int, .int, .int], (hw _ (List.mem_of_getElem? (i := 139) rfl)), chk_ok dk_c38, pk_c38, rfl⟩, ⟨prog_1_method_39_code, [.int, .int, .int, .int], (hw _ (List.mem_of_getElem? (i := 143) rfl)), chk_ok dk_c39, pk_c39, rfl⟩, ⟨prog_1_method_40_code, [.int, .int, .int], (hw _ (List.mem_of_getElem? (i := 122) rfl)), chk_ok dk_c40, pk_c40, rfl⟩, ⟨prog_1_method_41_code, [.int, .int, .int, .int], (hw _ (List.mem_of_getElem? (i := 147) rfl)), chk_ok dk_c41, pk_c41, rfl⟩, ⟨prog_1_method_42_code, [.int], (hw _ (List.mem_of_getElem? (i := 114) rfl)), chk_ok dk_c42, pk_c42, rfl⟩, ⟨prog_1_method_43_code, [.int], (hw _ (List.mem_of_getElem? (i := 118) rfl)), chk_ok dk_c43, pk_c43, rfl⟩, ⟨prog_1_method_44_code, [.int, .int], (hw _ (List.mem_of_getElem? (i := 159) rfl)), chk_ok dk_c44, pk_c44, rfl⟩, ⟨prog_1_method_45_code, [.int, .int], (hw _ (List.mem_of_getElem? (i := 167) rfl)), chk_ok dk_c45, pk_c45, rfl⟩, ⟨prog_1_method_46_code, [.int, .int, .int], (hw _ (List.mem_of_getElem? (i := 219) rfl)), chk_ok dk_c46, pk_c46, rfl⟩, ⟨prog_1_method_47_code, [.int, .int, .int, .int], (hw _ (List.mem_of_getElem? (i := 155) rfl)), chk_ok dk_c47, pk_c47, rfl⟩, ⟨prog_1_method_48_code, [.int, .int, .int, .int], (hw _ (List.mem_of_getElem? (i := 163) rfl)), chk_ok dk_c48, pk_c48, rfl⟩, ⟨prog_1_method_49_code, [.int, .int, .int, .int], (hw _ (List.mem_of_getElem? (i := 223) rfl)), chk_ok dk_c49, pk_c49, rfl⟩, ⟨prog_1_method_50_code, [.int], (hw _ (List.mem_of_getElem? (i := 171) rfl)), chk_ok dk_c50, pk_c50, rfl⟩, trivial⟩),
   asc_all (⟨by intro z h; obtain rfl : cm20 = z := Option.some.inj h; exact ⟨(hw _ (List.mem_of_getElem? (i := 33) rfl)), (hw _ (List.mem_of_getElem? (i := 34) rfl)), Or.inl (hw _ (List.mem_of_getElem? (i := 35) rfl))⟩, by intro z h; obtain rfl : cm17 = z := Option.some.inj h; exact ⟨(hw _ (List.mem_of_getElem? (i := 45) rfl)), (hw _ (List.mem_of_getElem? (i := 46) rfl)), Or.inl (hw _ (List.mem_of_getElem? (i := 47) rfl))⟩, by intro z h; obtain rfl : cm19 = z := Option.some.inj h; exact ⟨(hw _ (List.mem_of_getElem? (i := 57) rfl)), (hw _ (List.mem_of_getElem? (i := 58) rfl)), Or.inl (hw _ (List.mem_of_getElem? (i := 59) rfl))⟩, by intro z h; obtain rfl : cm21 = z := Option.some.inj h; exact ⟨(hw _ (List.mem_of_getElem? (i := 53) rfl)), (hw _ (List.mem_of_getElem? (i := 54) rfl)), Or.inl (hw _ (List.mem_of_getElem? (i := 55) rfl))⟩, by intro z h; obtain rfl : cm24 = z := Option.some.inj h; exact ⟨(hw _ (List.mem_of_getElem? (i := 66) rfl)), (hw _ (List.mem_of_getElem? (i := 67) rfl)), Or.inl (hw _ (List.mem_of_getElem? (i := 68) rfl))⟩, by intro z h; obtain rfl : cm28 = z := Option.some.inj h; exact ⟨(hw _ (List.mem_of_getElem? (i := 70) rfl)), (hw _ (List.mem_of_getElem? (i := 71) rfl)), Or.inl (hw _ (List.mem_of_getElem? (i := 72) rfl))⟩, by intro z h; obtain rfl : cm36 = z := Option.some.inj h; exact ⟨(hw _ (List.mem_of_getElem? (i := 75) rfl)), (hw _ (List.mem_of_getElem? (i := 76) rfl)), Or.inl (hw _ (List.mem_of_getElem? (i := 77) rfl))⟩, by intro z h; obtain rfl : cm42 = z := Option.some.inj h; exact ⟨(hw _ (List.mem_of_getElem? (i := 111) rfl)), (hw _ (List.mem_of_getElem? (i := 112) rfl)), Or.inl (hw _ (List.mem_of_getElem? (i := 113) rfl))⟩, by intro z h; obtain rfl : cm22 = z := Option.some.inj h; exact ⟨(hw _ (List.mem_of_getElem? (i := 91) rfl)), (hw _ (List.mem_of_getElem? (i := 92) rfl)), Or.inl (hw _ (List.mem_of_getElem? (i := 93) rfl))⟩, by intro z h; obtain rfl : cm23 = z := Option.some.inj h; exact ⟨(hw _ (List.mem_of_getElem? (i := 95) rfl)), (hw _ (List.mem_of_getElem? (i := 96) rfl)), Or.inl (hw _ (List.mem_of_getElem? (i := 97) rfl))⟩, by intro z h; obtain rfl : cm26 = z := Option.some.inj h; exact ⟨(hw _ (List.mem_of_getElem? (i := 132) rfl)), (hw _ (List.mem_of_getElem? (i := 133) rfl)), Or.inl (hw _ (List.mem_of_getElem? (i := 134) rfl))⟩, by intro z h; obtain rfl : cm38 = z := Option.some.inj h; exact ⟨(hw _ (List.mem_of_getElem? (i := 136) rfl)), (hw _ (List.mem_of_getElem? (i := 137) rfl)), Or.inl (hw _ (List.mem_of_getElem? (i := 138) rfl))⟩, by intro z h; obtain rfl : cm27 = z := Option.some.inj h; exact ⟨(hw _ (List.mem_of_getElem? (i := 202) rfl)), (hw _ (List.mem_of_getElem? (i := 203) rfl)), Or.inl (hw _ (List.mem_of_getElem? (i := 204) rfl))⟩, by intro z h; obtain rfl : cm32 = z := Option.some.inj h; exact ⟨(hw _ (List.mem_of_getElem? (i := 148) rfl)), (hw _ (List.mem_of_getElem? (i := 149) rfl)), Or.inl (hw _ (List.mem_of_getElem? (i := 150) rfl))⟩, by intro z h; obtain rfl : cm34 = z := Option.some.inj h; exact ⟨(hw _ (List.mem_of_getElem? (i := 123) rfl)), (hw _ (List.mem_of_getElem? (i := 124) rfl)), Or.inl (hw _ (List.mem_of_getElem? (i := 125) rfl))⟩, by intro z h; obtain rfl : cm18 = z := Option.some.inj h; exact ⟨(hw _ (List.mem_of_getElem? (i := 49) rfl)), (hw _ (List.mem_of_getElem? (i := 50) rfl)), Or.inl (hw _ (List.mem_of_getElem? (i := 51) rfl))⟩, by intro z h; obtain rfl : cm31 = z := Option.some.inj h; exact ⟨(hw _ (List.mem_of_getElem? (i := 87) rfl)), (hw _ (List.mem_of_getElem? (i := 88) rfl)), Or.inl (hw _ (List.mem_of_getElem? (i := 89) rfl))⟩, by intro z h; obtain rfl : cm29 = z := Option.some.inj h; exact ⟨(hw _ (List.mem_of_getElem? (i := 99) rfl)), (hw _ (List.mem_of_getElem? (i := 100) rfl)), Or.inl (hw _ (List.mem_of_getElem? (i := 101) rfl))⟩, by intro z h; obtain rfl : cm30 = z := Option.some.inj h; exact ⟨(hw _ (List.mem_of_getElem? (i := 107) rfl)), (hw _ (List.mem_of_getElem? (i := 108) rfl)), Or.inl (hw _ (List.mem_of_getElem? (i := 109) rfl))⟩, by intro z h; obtain rfl : cm25 = z := Option.some.inj h; exact ⟨(hw _ (List.mem_of_getElem? (i := 79) rfl)), (hw _ (List.mem_of_getElem? (i := 80) rfl)), Or.inl (hw _ (List.mem_of_getElem? (i := 81) rfl))⟩, by intro z h; obtain rfl : cm33 = z := Option.some.inj h; exact ⟨(hw _ (List.mem_of_getElem? (i := 83) rfl)), (hw _ (List.mem_of_getElem? (i := 84) rfl)), Or.inl (hw _ (List.mem_of_getElem? (i := 85) rfl))⟩, by intro z h; obtain rfl : cm35 = z := Option.some.inj h; exact ⟨(hw _ (List.mem_of_getElem? (i := 103) rfl)), (hw _ (List.mem_of_getElem? (i := 104) rfl)), Or.inl (hw _ (List.mem_of_getElem? (i := 105) rfl))⟩, by intro z h; obtain rfl : cm39 = z := Option.some.inj h; exact ⟨(hw _ (List.mem_of_getElem? (i := 140) rfl)), (hw _ (List.mem_of_getElem? (i := 141) rfl)), Or.inl (hw _ (List.mem_of_getElem? (i := 142) rfl))⟩, by intro z h; obtain rfl : cm43 = z := Option.some.inj h; exact ⟨(hw _ (List.mem_of_getElem? (i := 115) rfl)), (hw _ (List.mem_of_getElem? (i := 116) rfl)), Or.inl (hw _ (List.mem_of_getElem? (i := 117) rfl))⟩, by intro z h; obtain rfl : cm40 = z := Option.some.inj h; exact ⟨(hw _ (List.mem_of_getElem? (i := 119) rfl)), (hw _ (List.mem_of_getElem? (i := 120) rfl)), Or.inl (hw _ (List.mem_of_getElem? (i := 121) rfl))⟩, by intro z h; obtain rfl : cm41 = z := Option.some.inj h; exact ⟨(hw _ (List.mem_of_getElem? (i := 144) rfl)), (hw _ (List.mem_of_getElem? (i := 145) rfl)), Or.inl (hw _ (List.mem_of_getElem? (i := 146) rfl))⟩, by intro z h; obtain rfl : cm47 = z := Option.some.inj h; exact ⟨(hw _ (List.mem_of_getElem? (i := 152) rfl)), (hw _ (List.mem_of_getElem? (i := 153) rfl)), Or.inl (hw _ (List.mem_of_getElem? (i := 154) rfl))⟩, by intro z h; obtain rfl : cm48 = z := Option.some.inj h; exact ⟨(hw _ (List.mem_of_getElem? (i := 160) rfl)), (hw _ (List.mem_of_getElem? (i := 161) rfl)), Or.inl (hw _ (List.mem_of_getElem? (i := 162) rfl))⟩, by intro z h; obtain rfl : cm44 = z := Option.some.inj h; exact ⟨(hw _ (List.mem_of_getElem? (i := 156) rfl)), (hw _ (List.mem_of_getElem? (i := 157) rfl)), Or.inl (hw _ (List.mem_of_getElem? (i := 158) rfl))⟩, by intro z h; obtain rfl : cm45 = z := Option.some.inj h; exact ⟨(hw _ (List.mem_of_getElem? (i := 164) rfl)), (hw _ (List.mem_of_getElem? (i := 165) rfl)), Or.inl (hw _ (List.mem_of_getElem? (i := 166) rfl))⟩, by intro z h; obtain rfl : cm50 = z := Option.some.inj h; exact ⟨(hw _ (List.mem_of_getElem? (i := 168) rfl)), (hw _ (List.mem_of_getElem? (i := 169) rfl)), Or.inl (hw _ (List.mem_of_getElem? (i := 170) rfl))⟩, by intro z h; obtain rfl : cm46 = z := Option.some.inj h; exact ⟨(hw _ (List.mem_of_getElem? (i := 216) rfl)), (hw _ (List.mem_of_getElem? (i := 217) rfl)), Or.inl (hw _ (List.mem_of_getElem? (i := 218) rfl))⟩, by intro z h; obtain rfl : cm49 = z := Option.some.inj h; exact ⟨(hw _ (List.mem_of_getElem? (i := 220) rfl)), (hw _ (List.mem_of_getElem? (i := 221) rfl)), Or.inl (hw _ (List.mem_of_getElem? (i := 222) rfl))⟩, trivial⟩),
   (by first | (simp [plainName, overriddenIn]; done) | decide +kernel),
   (by decide),
   (by intro me h; obtain rfl : cm0 = me := Option.some.inj h; rfl)⟩
theorem lkL (Z : State) (a0 : Array Value) (hw : ∀ d ∈ tables_1, d.before a0 Z = true) : LinkL PP QQ Z a0 :=
  ⟨⟨(hw _ (List.mem_of_getElem? (i := 0) rfl)), (hw _ (List.mem_of_getElem? (i := 1) rfl))⟩,
   (by intro me h; obtain rfl : cm0 = me := Option.some.inj h; exact ⟨(hw _ (List.mem_of_getElem? (i := 3) rfl)), (hw _ (List.mem_of_getElem? (i := 4) rfl)), rfl⟩),
   asc_all (⟨by intro z h; obtain rfl : cm2 = z := Option.some.inj h; exact ⟨(hw _ (List.mem_of_getElem? (i := 61) rfl)), (hw _ (List.mem_of_getElem? (i := 62) rfl)), (hw _ (List.mem_of_getElem? (i := 63) rfl)), (hw _ (List.mem_of_getElem? (i := 64) rfl))⟩, by intro z h; obtain rfl : cm3 = z := Option.some.inj h; exact ⟨(hw _ (List.mem_of_getElem? (i := 127) rfl)), (hw _ (List.mem_of_getElem? (i := 128) rfl)), (hw _ (List.mem_of_getElem? (i := 129) rfl)), (hw _ (List.mem_of_getElem? (i := 130) rfl))⟩, by intro z h; obtain rfl : cm5 = z := Option.some.inj h; exact ⟨(hw _ (List.mem_of_getElem? (i := 177) rfl)), (hw _ (List.mem_of_getElem? (i := 178) rfl)), (hw _ (List.mem_of_getElem? (i := 179) rfl)), (hw _ (List.mem_of_getElem? (i := 180) rfl))⟩, by intro z h; obtain rfl : cm12 = z := Option.some.inj h; exact ⟨(hw _ (List.mem_of_getElem? (i := 182) rfl)), (hw _ (List.mem_of_getElem? (i := 183) rfl)), (hw _ (List.mem_of_getElem? (i := 184) rfl)), (hw _ (List.mem_of_getElem? (i := 185) rfl))⟩, by intro z h; obtain rfl : cm10 = z := Option.some.inj h; exact ⟨(hw _ (List.mem_of_getElem? (i := 187) rfl)), (hw _ (List.mem_of_getElem? (i := 188) rfl)), (hw _ (List.mem_of_getElem? (i := 189) rfl)), (hw _ (List.mem_of_getElem? (i := 190) rfl))⟩, by intro z h; obtain rfl : cm11 = z := Option.some.inj h; exact ⟨(hw _ (List.mem_of_getElem? (i := 192) rfl)), (hw _ (List.mem_of_getElem? (i := 193) rfl)), (hw _ (List.mem_of_getElem? (i := 194) rfl)), (hw _ (List.mem_of_getElem? (i := 195) rfl))⟩, by intro z h; obtain rfl : cm8 = z := Option.some.inj h; exact ⟨(hw _ (List.mem_of_getElem? (i := 197) rfl)), (hw _ (List.mem_of_getElem? (i := 198) rfl)), (hw _ (List.mem_of_getElem? (i := 199) rfl)), (hw _ (List.mem_of_getElem? (i := 200) rfl))⟩, by intro z h; obtain rfl : cm14 = z := Option.some.inj h; exact ⟨(hw _ (List.mem_of_getElem? (i := 206) rfl)), (hw _ (List.mem_of_getElem? (i := 207) rfl)), (hw _ (List.mem_of_getElem? (i := 208) rfl)), (hw _ (List.mem_of_getElem? (i := 209) rfl))⟩, by intro z h; obtain rfl : cm15 = z := Option.some.inj h; exact ⟨(hw _ (List.mem_of_getElem? (i := 211) rfl)), (hw _ (List.mem_of_getElem? (i := 212) rfl)), (hw _ (List.mem_of_getElem? (i := 213) rfl)), (hw _ (List.mem_of_getElem? (i := 214) rfl))⟩, trivial⟩),
   asc_all (trivial),
   asc_all (⟨(hw _ (List.mem_of_getElem? (i := 174) rfl)), (hw _ (List.mem_of_getElem? (i := 175) rfl)), (hw _ (List.mem_of_getElem? (i := 176) rfl)), trivial⟩),
   asc_all (⟨fun h => absurd rfl h, trivial⟩),
   (by first | (simp [plainName, overriddenIn]; done) | decide +kernel),
   (by decide)⟩
theorem c20_in (a1 : Int32) (a2 : Int32) (a3 : Int32) (s : St) (Q : Int32 → St → Prop) (h : ((a1 < a2) → Q a2 s) ∧ (¬ (a1 < a2) → ((a3 < a1) → Q a3 s) ∧ (¬ (a3 < a1) → Q a1 s))) : calI PP 20 11 [.ref 0, .int a1, .int a2, .int a3] s Q := by
  refine cal_of (me := cm20) (ls := [some (.ref 0), some (.int a1), some (.int a2), some (.int a3)]) rfl (Nat.le_of_ble_eq_true rfl) rfl ?_
  refine wpc_sl (n := 2) (c' := 11) (pc' := 2) (ls' := [some (.ref 0), some (.int a1), some (.int a2), some (.int a3)]) (st' := [.int a2, .int a1]) (s' := s) rfl ?_
  refine wpc_icmp (a := 7) (b := 5) rfl (by decide) rfl rfl (wpc_br (p := a1 < a2) ⟨fun hc121 => ?_, fun hc121 => ?_⟩)
  · have h122 := h.1 hc121
    refine wpc_sl (n := 1) (c' := 11) (pc' := 6) (ls' := [some (.ref 0), some (.int a1), some (.int a2), some (.int a3)]) (st' := [.int a2]) (s' := s) rfl ?_
    exact wpc_ret rfl rfl (fun q => absurd q (by decide)) rfl ⟨a2, rfl, h122⟩
  · have h123 := h.2 hc121
    refine wpc_sl (n := 2) (c' := 11) (pc' := 9) (ls' := [some (.ref 0), some (.int a1), some (.int a2), some (.int a3)]) (st' := [.int a3, .int a1]) (s' := s) rfl ?_
    refine wpc_icmp (a := 14) (b := 12) rfl (by decide) rfl rfl (wpc_br (p := a3 < a1) ⟨fun hc124 => ?_, fun hc124 => ?_⟩)
    · have h125 := h123.1 hc124
      refine wpc_sl (n := 1) (c' := 11) (pc' := 13) (ls' := [some (.ref 0), some (.int a1), some (.int a2), some (.int a3)]) (st' := [.int a3]) (s' := s) rfl ?_
      exact wpc_ret rfl rfl (fun q => absurd q (by decide)) rfl ⟨a3, rfl, h125⟩
    · have h126 := h123.2 hc124
      refine wpc_sl (n := 1) (c' := 11) (pc' := 15) (ls' := [some (.ref 0), some (.int a1), some (.int a2), some (.int a3)]) (st' := [.int a1]) (s' := s) rfl ?_
      exact wpc_ret rfl rfl (fun q => absurd q (by decide)) rfl ⟨a1, rfl, h126⟩
theorem c21_in (a1 : Int32) (s : St) (Q : Int32 → St → Prop) (h : ((a1 < (0 : Int32)) → Q (0 : Int32) s) ∧ (¬ (a1 < (0 : Int32)) → ((a1 < (7 : Int32)) → Q (1 : Int32) s) ∧ (¬ (a1 < (7 : Int32)) → Q (0 : Int32) s))) : calI PP 21 11 [.ref 0, .int a1] s Q := by
  refine cal_of (me := cm21) (ls := [some (.ref 0), some (.int a1)]) rfl (Nat.le_of_ble_eq_true rfl) rfl ?_
  refine wpc_sl (n := 1) (c' := 11) (pc' := 1) (ls' := [some (.ref 0), some (.int a1)]) (st' := [.int a1]) (s' := s) rfl ?_
  refine wpc_if (a := 14) (b := 4) rfl (by decide) rfl rfl (wpc_br (p := a1 < (0 : Int32)) ⟨fun hc148 => ?_, fun hc148 => ?_⟩)
  · have h149 := h.1 hc148
    refine wpc_sl (n := 1) (c' := 11) (pc' := 15) (ls' := [some (.ref 0), some (.int a1)]) (st' := [.int (0 : Int32)]) (s' := s) rfl ?_
    exact wpc_ret rfl rfl (fun q => absurd q (by decide)) rfl ⟨(0 : Int32), rfl, h149⟩
  · have h150 := h.2 hc148
    refine wpc_sl (n := 2) (c' := 11) (pc' := 7) (ls' := [some (.ref 0), some (.int a1)]) (st' := [.int (7 : Int32), .int a1]) (s' := s) rfl ?_
    refine wpc_icmp (a := 14) (b := 10) rfl (by decide) rfl rfl (wpc_br (p := a1 < (7 : Int32)) ⟨fun hc151 => ?_, fun hc151 => ?_⟩)
    · have h152 := h150.1 hc151
      refine wpc_sl (n := 2) (c' := 11) (pc' := 15) (ls' := [some (.ref 0), some (.int a1)]) (st' := [.int (1 : Int32)]) (s' := s) rfl ?_
      exact wpc_ret rfl rfl (fun q => absurd q (by decide)) rfl ⟨(1 : Int32), rfl, h152⟩
    · have h153 := h150.2 hc151
      refine wpc_sl (n := 1) (c' := 11) (pc' := 15) (ls' := [some (.ref 0), some (.int a1)]) (st' := [.int (0 : Int32)]) (s' := s) rfl ?_
      exact wpc_ret rfl rfl (fun q => absurd q (by decide)) rfl ⟨(0 : Int32), rfl, h153⟩
theorem c18_in (a1 : Int32) (s : St) (Q : St → Prop) (h : calI PP 21 11 [.ref 0, .int a1] s (fun v134 s133 => ((v134 = (0 : Int32)) → Q s133) ∧ (¬ (v134 = (0 : Int32)) → inb 7 a1 ∧ inb 7 a1 ∧ inb 7 a1 ∧ inb 7 a1 ∧ inb 7 a1 ∧ inb 7 a1 ∧ inb 7 a1 ∧ inb 7 a1 ∧ inb 7 a1 ∧ Q (sI (sL (sI (sI (sI (sI (sI (sI (sI s133 1 (ix a1) (0 : Int32)) 2 (ix a1) (-1 : Int32)) 3 (ix a1) (-1 : Int32)) 4 (ix a1) (0 : Int32)) 5 (ix a1) (0 : Int32)) 6 (ix a1) (-1 : Int32)) 7 (ix a1) (0 : Int32)) 8 (ix a1) (0 : Int64)) 9 (ix a1) (0 : Int32))))) : calV PP 18 11 [.ref 0, .int a1] s Q := by
  refine cal_of (me := cm18) (ls := [some (.ref 0), some (.int a1)]) rfl (Nat.le_of_ble_eq_true rfl) rfl ?_
  refine wpc_sl (n := 2) (c' := 11) (pc' := 2) (ls' := [some (.ref 0), some (.int a1)]) (st' := [.int a1, .ref 0]) (s' := s) rfl ?_
  refine wpc_callI (m' := 21) (me' := cm21) (as := [.int a1]) (r := []) rfl rfl rfl rfl rfl ⟨by decide, (by first | decide | exact Nat.le_of_ble_eq_true rfl), (by first | decide | exact Nat.le_of_ble_eq_true rfl), rfl⟩ (calI.mono h fun v134 s133 h135 => ?_)
  refine wpc_if (a := 9) (b := 8) rfl (by decide) rfl rfl (wpc_br (p := v134 = (0 : Int32)) ⟨fun hc136 => ?_, fun hc136 => ?_⟩)
  · have h137 := h135.1 hc136
    exact wpc_ret rfl rfl (fun q => absurd q (by decide)) rfl ⟨rfl, h137⟩
  · have h138 := h135.2 hc136
    refine wpc_sl (n := 4) (c' := 11) (pc' := 15) (ls' := [some (.ref 0), some (.int a1)]) (st' := [.int (0 : Int32), .int a1, .ref 1]) (s' := s133) rfl ?_
    refine wpc_staI (a := 0) (N := 7) (s' := (sI s133 1 (ix a1) (0 : Int32))) rfl rfl (by decide) h138.1 rfl ?_
    have h139 := h138.2
    refine wpc_sl (n := 4) (c' := 11) (pc' := 22) (ls' := [some (.ref 0), some (.int a1)]) (st' := [.int (-1 : Int32), .int a1, .ref 2]) (s' := (sI s133 1 (ix a1) (0 : Int32))) rfl ?_
    refine wpc_staI (a := 1) (N := 7) (s' := (sI (sI s133 1 (ix a1) (0 : Int32)) 2 (ix a1) (-1 : Int32))) rfl rfl (by decide) h139.1 rfl ?_
    have h140 := h139.2
    refine wpc_sl (n := 4) (c' := 11) (pc' := 29) (ls' := [some (.ref 0), some (.int a1)]) (st' := [.int (-1 : Int32), .int a1, .ref 3]) (s' := (sI (sI s133 1 (ix a1) (0 : Int32)) 2 (ix a1) (-1 : Int32))) rfl ?_
    refine wpc_staI (a := 2) (N := 7) (s' := (sI (sI (sI s133 1 (ix a1) (0 : Int32)) 2 (ix a1) (-1 : Int32)) 3 (ix a1) (-1 : Int32))) rfl rfl (by decide) h140.1 rfl ?_
    have h141 := h140.2
    refine wpc_sl (n := 4) (c' := 11) (pc' := 36) (ls' := [some (.ref 0), some (.int a1)]) (st' := [.int (0 : Int32), .int a1, .ref 4]) (s' := (sI (sI (sI s133 1 (ix a1) (0 : Int32)) 2 (ix a1) (-1 : Int32)) 3 (ix a1) (-1 : Int32))) rfl ?_
    refine wpc_staI (a := 3) (N := 7) (s' := (sI (sI (sI (sI s133 1 (ix a1) (0 : Int32)) 2 (ix a1) (-1 : Int32)) 3 (ix a1) (-1 : Int32)) 4 (ix a1) (0 : Int32))) rfl rfl (by decide) h141.1 rfl ?_
    have h142 := h141.2
    refine wpc_sl (n := 4) (c' := 11) (pc' := 43) (ls' := [some (.ref 0), some (.int a1)]) (st' := [.int (0 : Int32), .int a1, .ref 5]) (s' := (sI (sI (sI (sI s133 1 (ix a1) (0 : Int32)) 2 (ix a1) (-1 : Int32)) 3 (ix a1) (-1 : Int32)) 4 (ix a1) (0 : Int32))) rfl ?_
    refine wpc_staI (a := 4) (N := 7) (s' := (sI (sI (sI (sI (sI s133 1 (ix a1) (0 : Int32)) 2 (ix a1) (-1 : Int32)) 3 (ix a1) (-1 : Int32)) 4 (ix a1) (0 : Int32)) 5 (ix a1) (0 : Int32))) rfl rfl (by decide) h142.1 rfl ?_
    have h143 := h142.2
    refine wpc_sl (n := 4) (c' := 11) (pc' := 50) (ls' := [some (.ref 0), some (.int a1)]) (st' := [.int (-1 : Int32), .int a1, .ref 6]) (s' := (sI (sI (sI (sI (sI s133 1 (ix a1) (0 : Int32)) 2 (ix a1) (-1 : Int32)) 3 (ix a1) (-1 : Int32)) 4 (ix a1) (0 : Int32)) 5 (ix a1) (0 : Int32))) rfl ?_
    refine wpc_staI (a := 5) (N := 7) (s' := (sI (sI (sI (sI (sI (sI s133 1 (ix a1) (0 : Int32)) 2 (ix a1) (-1 : Int32)) 3 (ix a1) (-1 : Int32)) 4 (ix a1) (0 : Int32)) 5 (ix a1) (0 : Int32)) 6 (ix a1) (-1 : Int32))) rfl rfl (by decide) h143.1 rfl ?_
    have h144 := h143.2
    refine wpc_sl (n := 4) (c' := 11) (pc' := 57) (ls' := [some (.ref 0), some (.int a1)]) (st' := [.int (0 : Int32), .int a1, .ref 7]) (s' := (sI (sI (sI (sI (sI (sI s133 1 (ix a1) (0 : Int32)) 2 (ix a1) (-1 : Int32)) 3 (ix a1) (-1 : Int32)) 4 (ix a1) (0 : Int32)) 5 (ix a1) (0 : Int32)) 6 (ix a1) (-1 : Int32))) rfl ?_
    refine wpc_staI (a := 6) (N := 7) (s' := (sI (sI (sI (sI (sI (sI (sI s133 1 (ix a1) (0 : Int32)) 2 (ix a1) (-1 : Int32)) 3 (ix a1) (-1 : Int32)) 4 (ix a1) (0 : Int32)) 5 (ix a1) (0 : Int32)) 6 (ix a1) (-1 : Int32)) 7 (ix a1) (0 : Int32))) rfl rfl (by decide) h144.1 rfl ?_
    have h145 := h144.2
    refine wpc_sl (n := 4) (c' := 11) (pc' := 64) (ls' := [some (.ref 0), some (.int a1)]) (st' := [.long (0 : Int64), .int a1, .ref 8]) (s' := (sI (sI (sI (sI (sI (sI (sI s133 1 (ix a1) (0 : Int32)) 2 (ix a1) (-1 : Int32)) 3 (ix a1) (-1 : Int32)) 4 (ix a1) (0 : Int32)) 5 (ix a1) (0 : Int32)) 6 (ix a1) (-1 : Int32)) 7 (ix a1) (0 : Int32))) rfl ?_
    refine wpc_staJ (a := 7) (N := 7) (s' := (sL (sI (sI (sI (sI (sI (sI (sI s133 1 (ix a1) (0 : Int32)) 2 (ix a1) (-1 : Int32)) 3 (ix a1) (-1 : Int32)) 4 (ix a1) (0 : Int32)) 5 (ix a1) (0 : Int32)) 6 (ix a1) (-1 : Int32)) 7 (ix a1) (0 : Int32)) 8 (ix a1) (0 : Int64))) rfl rfl (by decide) h145.1 rfl ?_
    have h146 := h145.2
    refine wpc_sl (n := 4) (c' := 11) (pc' := 71) (ls' := [some (.ref 0), some (.int a1)]) (st' := [.int (0 : Int32), .int a1, .ref 9]) (s' := (sL (sI (sI (sI (sI (sI (sI (sI s133 1 (ix a1) (0 : Int32)) 2 (ix a1) (-1 : Int32)) 3 (ix a1) (-1 : Int32)) 4 (ix a1) (0 : Int32)) 5 (ix a1) (0 : Int32)) 6 (ix a1) (-1 : Int32)) 7 (ix a1) (0 : Int32)) 8 (ix a1) (0 : Int64))) rfl ?_
    refine wpc_staI (a := 8) (N := 7) (s' := (sI (sL (sI (sI (sI (sI (sI (sI (sI s133 1 (ix a1) (0 : Int32)) 2 (ix a1) (-1 : Int32)) 3 (ix a1) (-1 : Int32)) 4 (ix a1) (0 : Int32)) 5 (ix a1) (0 : Int32)) 6 (ix a1) (-1 : Int32)) 7 (ix a1) (0 : Int32)) 8 (ix a1) (0 : Int64)) 9 (ix a1) (0 : Int32))) rfl rfl (by decide) h146.1 rfl ?_
    have h147 := h146.2
    exact wpc_ret rfl rfl (fun q => absurd q (by decide)) rfl ⟨rfl, h147⟩
theorem c17_in  (s : St) (Q : St → Prop) (h : wpcV PP 17 cm17 11 2 [some (.ref 0), some (.int (0 : Int32))] [] s Q) : calV PP 17 11 [.ref 0] s Q := by
  refine cal_of (me := cm17) (ls := [some (.ref 0), none]) rfl (Nat.le_of_ble_eq_true rfl) rfl ?_
  refine wpc_sl (n := 2) (c' := 11) (pc' := 2) (ls' := [some (.ref 0), some (.int (0 : Int32))]) (st' := []) (s' := s) rfl ?_
  exact h
theorem c17_2 (x1 : Int32) (s : St) (Q : St → Prop) (h : ((x1 < (7 : Int32)) → calV PP 18 11 [.ref 0, .int x1] s (fun s130 => wpcV PP 17 cm17 11 2 [some (.ref 0), some (.int (x1 + (1 : Int32)))] [] s130 Q)) ∧ (¬ (x1 < (7 : Int32)) → Q s)) : wpcV PP 17 cm17 11 2 [some (.ref 0), some (.int x1)] [] s Q := by
  refine wpc_sl (n := 2) (c' := 11) (pc' := 5) (ls' := [some (.ref 0), some (.int x1)]) (st' := [.int (7 : Int32), .int x1]) (s' := s) rfl ?_
  refine wpc_icmp (a := 19) (b := 8) rfl (by decide) rfl rfl (wpc_br (p := x1 < (7 : Int32)) ⟨fun hc127 => ?_, fun hc127 => ?_⟩)
  · have h128 := h.1 hc127
    refine wpc_sl (n := 2) (c' := 11) (pc' := 10) (ls' := [some (.ref 0), some (.int x1)]) (st' := [.int x1, .ref 0]) (s' := s) rfl ?_
    refine wpc_callV (m' := 18) (me' := cm18) (as := [.int x1]) (r := []) rfl rfl rfl rfl rfl ⟨by decide, (by first | decide | exact Nat.le_of_ble_eq_true rfl), (by first | decide | exact Nat.le_of_ble_eq_true rfl), rfl⟩ (calV.mono h128 fun s130 h132 => ?_)
    refine wpc_sl (n := 2) (c' := 11) (pc' := 2) (ls' := [some (.ref 0), some (.int (x1 + (1 : Int32)))]) (st' := []) (s' := s130) rfl ?_
    exact h132
  · have h129 := h.2 hc127
    exact wpc_ret rfl rfl (fun q => absurd q (by decide)) rfl ⟨rfl, h129⟩
theorem c19_in  (s : St) (Q : St → Prop) (h : wpcV PP 19 cm19 11 2 [some (.ref 0), some (.int (0 : Int32))] [] s Q) : calV PP 19 11 [.ref 0] s Q := by
  refine cal_of (me := cm19) (ls := [some (.ref 0), none]) rfl (Nat.le_of_ble_eq_true rfl) rfl ?_
  refine wpc_sl (n := 2) (c' := 11) (pc' := 2) (ls' := [some (.ref 0), some (.int (0 : Int32))]) (st' := []) (s' := s) rfl ?_
  exact h
theorem c19_2 (x1 : Int32) (s : St) (Q : St → Prop) (h : ((x1 < (112 : Int32)) → inb 112 x1 ∧ wpcV PP 19 cm19 11 2 [some (.ref 0), some (.int (x1 + (1 : Int32)))] [] (sI s 10 (ix x1) (-1 : Int32)) Q) ∧ (¬ (x1 < (112 : Int32)) → wpcV PP 19 cm19 11 23 [some (.ref 0), some (.int (0 : Int32))] [] s Q)) : wpcV PP 19 cm19 11 2 [some (.ref 0), some (.int x1)] [] s Q := by
  refine wpc_sl (n := 2) (c' := 11) (pc' := 5) (ls' := [some (.ref 0), some (.int x1)]) (st' := [.int (112 : Int32), .int x1]) (s' := s) rfl ?_
  refine wpc_icmp (a := 21) (b := 8) rfl (by decide) rfl rfl (wpc_br (p := x1 < (112 : Int32)) ⟨fun hc154 => ?_, fun hc154 => ?_⟩)
  · have h155 := h.1 hc154
    refine wpc_sl (n := 4) (c' := 11) (pc' := 14) (ls' := [some (.ref 0), some (.int x1)]) (st' := [.int (-1 : Int32), .int x1, .ref 10]) (s' := s) rfl ?_
    refine wpc_staI (a := 9) (N := 112) (s' := (sI s 10 (ix x1) (-1 : Int32))) rfl rfl (by decide) h155.1 rfl ?_
    have h157 := h155.2
    refine wpc_sl (n := 2) (c' := 11) (pc' := 2) (ls' := [some (.ref 0), some (.int (x1 + (1 : Int32)))]) (st' := []) (s' := (sI s 10 (ix x1) (-1 : Int32))) rfl ?_
    exact h157
  · have h156 := h.2 hc154
    refine wpc_sl (n := 2) (c' := 11) (pc' := 23) (ls' := [some (.ref 0), some (.int (0 : Int32))]) (st' := []) (s' := s) rfl ?_
    exact h156
theorem c19_23 (x1 : Int32) (s : St) (Q : St → Prop) (h : ((x1 < (784 : Int32)) → inb 784 x1 ∧ wpcV PP 19 cm19 11 23 [some (.ref 0), some (.int (x1 + (1 : Int32)))] [] (sI s 11 (ix x1) (0 : Int32)) Q) ∧ (¬ (x1 < (784 : Int32)) → Q s)) : wpcV PP 19 cm19 11 23 [some (.ref 0), some (.int x1)] [] s Q := by
  refine wpc_sl (n := 2) (c' := 11) (pc' := 27) (ls' := [some (.ref 0), some (.int x1)]) (st' := [.int (784 : Int32), .int x1]) (s' := s) rfl ?_
  refine wpc_icmp (a := 43) (b := 30) rfl (by decide) rfl rfl (wpc_br (p := x1 < (784 : Int32)) ⟨fun hc158 => ?_, fun hc158 => ?_⟩)
  · have h159 := h.1 hc158
    refine wpc_sl (n := 4) (c' := 11) (pc' := 36) (ls' := [some (.ref 0), some (.int x1)]) (st' := [.int (0 : Int32), .int x1, .ref 11]) (s' := s) rfl ?_
    refine wpc_staI (a := 10) (N := 784) (s' := (sI s 11 (ix x1) (0 : Int32))) rfl rfl (by decide) h159.1 rfl ?_
    have h161 := h159.2
    refine wpc_sl (n := 2) (c' := 11) (pc' := 23) (ls' := [some (.ref 0), some (.int (x1 + (1 : Int32)))]) (st' := []) (s' := (sI s 11 (ix x1) (0 : Int32))) rfl ?_
    exact h161
  · have h160 := h.2 hc158
    exact wpc_ret rfl rfl (fun q => absurd q (by decide)) rfl ⟨rfl, h160⟩
theorem c0_in (a1 : Int32) (a2 : Int32) (s : St) (Q : St → Prop) (h : calI PP 20 11 [.ref 0, .int a1, .int (0 : Int32), .int (3 : Int32)] s (fun v110 s109 => calI PP 20 11 [.ref 0, .int a2, .int (1 : Int32), .int (8 : Int32)] (sI s109 0 19 v110) (fun v113 s112 => calV PP 17 11 [.ref 0] (sI (sI (sI s112 0 20 v113) 0 21 ((7 : Int32) - (gI s112 0 19))) 0 22 (0 : Int32)) (fun s115 => calV PP 19 11 [.ref 0] s115 (fun s118 => Q s118))))) : calV PP 0 0 [.ref 0, .int a1, .int a2] s Q := by
  refine cal_of (me := cm0) (ls := [some (.ref 0), some (.int a1), some (.int a2)]) rfl (Nat.le_of_ble_eq_true rfl) rfl ?_
  refine wpc_sl (n := 40) (c' := 11) (pc' := 98) (ls' := [some (.ref 0), some (.int a1), some (.int a2)]) (st' := [.int (3 : Int32), .int (0 : Int32), .int a1, .ref 0, .ref 0]) (s' := s) rfl ?_
  refine wpc_callI (m' := 20) (me' := cm20) (as := [.int a1, .int (0 : Int32), .int (3 : Int32)]) (r := [.ref 0]) rfl rfl rfl rfl rfl ⟨by decide, (by first | decide | exact Nat.le_of_ble_eq_true rfl), (by first | decide | exact Nat.le_of_ble_eq_true rfl), rfl⟩ (calI.mono h fun v110 s109 h111 => ?_)
  refine wpc_sl (n := 6) (c' := 11) (pc' := 110) (ls' := [some (.ref 0), some (.int a1), some (.int a2)]) (st' := [.int (8 : Int32), .int (1 : Int32), .int a2, .ref 0, .ref 0]) (s' := (sI s109 0 19 v110)) rfl ?_
  refine wpc_callI (m' := 20) (me' := cm20) (as := [.int a2, .int (1 : Int32), .int (8 : Int32)]) (r := [.ref 0]) rfl rfl rfl rfl rfl ⟨by decide, (by first | decide | exact Nat.le_of_ble_eq_true rfl), (by first | decide | exact Nat.le_of_ble_eq_true rfl), rfl⟩ (calI.mono h111 fun v113 s112 h114 => ?_)
  refine wpc_sl (n := 11) (c' := 11) (pc' := 133) (ls' := [some (.ref 0), some (.int a1), some (.int a2)]) (st' := [.ref 0]) (s' := (sI (sI (sI s112 0 20 v113) 0 21 ((7 : Int32) - (gI s112 0 19))) 0 22 (0 : Int32))) rfl ?_
  refine wpc_callV (m' := 17) (me' := cm17) (as := []) (r := []) rfl rfl rfl rfl rfl ⟨by decide, (by first | decide | exact Nat.le_of_ble_eq_true rfl), (by first | decide | exact Nat.le_of_ble_eq_true rfl), rfl⟩ (calV.mono h114 fun s115 h117 => ?_)
  refine wpc_sl (n := 1) (c' := 11) (pc' := 137) (ls' := [some (.ref 0), some (.int a1), some (.int a2)]) (st' := [.ref 0]) (s' := s115) rfl ?_
  refine wpc_callV (m' := 19) (me' := cm19) (as := []) (r := []) rfl rfl rfl rfl rfl ⟨by decide, (by first | decide | exact Nat.le_of_ble_eq_true rfl), (by first | decide | exact Nat.le_of_ble_eq_true rfl), rfl⟩ (calV.mono h117 fun s118 h120 => ?_)
  exact wpc_ret rfl rfl (fun _ => rfl) rfl ⟨rfl, h120⟩
theorem c24_in (a1 : Int32) (s : St) (Q : Int32 → St → Prop) (h : ((a1 = (0 : Int32)) → Q (1 : Int32) s) ∧ (¬ (a1 = (0 : Int32)) → ((a1 = (1 : Int32)) → Q (1 : Int32) s) ∧ (¬ (a1 = (1 : Int32)) → Q (0 : Int32) s))) : calI PP 24 11 [.ref 0, .int a1] s Q := by
  refine cal_of (me := cm24) (ls := [some (.ref 0), some (.int a1)]) rfl (Nat.le_of_ble_eq_true rfl) rfl ?_
  refine wpc_sl (n := 1) (c' := 11) (pc' := 1) (ls' := [some (.ref 0), some (.int a1)]) (st' := [.int a1]) (s' := s) rfl ?_
  refine wpc_if (a := 9) (b := 4) rfl (by decide) rfl rfl (wpc_br (p := a1 = (0 : Int32)) ⟨fun hc193 => ?_, fun hc193 => ?_⟩)
  · have h194 := h.1 hc193
    refine wpc_sl (n := 2) (c' := 11) (pc' := 14) (ls' := [some (.ref 0), some (.int a1)]) (st' := [.int (1 : Int32)]) (s' := s) rfl ?_
    exact wpc_ret rfl rfl (fun q => absurd q (by decide)) rfl ⟨(1 : Int32), rfl, h194⟩
  · have h195 := h.2 hc193
    refine wpc_sl (n := 2) (c' := 11) (pc' := 6) (ls' := [some (.ref 0), some (.int a1)]) (st' := [.int (1 : Int32), .int a1]) (s' := s) rfl ?_
    refine wpc_icmp (a := 13) (b := 9) rfl (by decide) rfl rfl (wpc_br (p := a1 = (1 : Int32)) ⟨fun hc196 => ?_, fun hc196 => ?_⟩)
    · have h197 := h195.1 hc196
      refine wpc_sl (n := 2) (c' := 11) (pc' := 14) (ls' := [some (.ref 0), some (.int a1)]) (st' := [.int (1 : Int32)]) (s' := s) rfl ?_
      exact wpc_ret rfl rfl (fun q => absurd q (by decide)) rfl ⟨(1 : Int32), rfl, h197⟩
    · have h198 := h195.2 hc196
      refine wpc_sl (n := 1) (c' := 11) (pc' := 14) (ls' := [some (.ref 0), some (.int a1)]) (st' := [.int (0 : Int32)]) (s' := s) rfl ?_
      exact wpc_ret rfl rfl (fun q => absurd q (by decide)) rfl ⟨(0 : Int32), rfl, h198⟩
theorem c28_in (a1 : Int32) (a2 : Int32) (s : St) (Q : Int64 → St → Prop) (h : Q (((Int32.toInt64 a1) <<< (((32 : Int32)).toInt64 &&& 63)) ||| ((Int32.toInt64 a2) &&& (4294967295 : Int64))) s) : calL PP 28 11 [.ref 0, .int a1, .int a2] s Q := by
  refine cal_of (me := cm28) (ls := [some (.ref 0), some (.int a1), some (.int a2), none, none, none, none]) rfl (Nat.le_of_ble_eq_true rfl) rfl ?_
  refine wpc_sl (n := 13) (c' := 11) (pc' := 18) (ls' := [some (.ref 0), some (.int a1), some (.int a2), some (.long ((Int32.toInt64 a1) <<< (((32 : Int32)).toInt64 &&& 63))), none, some (.long ((Int32.toInt64 a2) &&& (4294967295 : Int64))), none]) (st' := [.long (((Int32.toInt64 a1) <<< (((32 : Int32)).toInt64 &&& 63)) ||| ((Int32.toInt64 a2) &&& (4294967295 : Int64)))]) (s' := s) rfl ?_
  exact wpc_ret rfl rfl (fun q => absurd q (by decide)) rfl ⟨(((Int32.toInt64 a1) <<< (((32 : Int32)).toInt64 &&& 63)) ||| ((Int32.toInt64 a2) &&& (4294967295 : Int64))), rfl, h⟩
theorem c25_in (a1 : Int32) (s : St) (Q : Int32 → St → Prop) (h : ((a1 = (0 : Int32)) → Q (1 : Int32) s) ∧ (¬ (a1 = (0 : Int32)) → ((a1 = (1 : Int32)) → Q (1 : Int32) s) ∧ (¬ (a1 = (1 : Int32)) → ((a1 = (2 : Int32)) → Q (1 : Int32) s) ∧ (¬ (a1 = (2 : Int32)) → Q (0 : Int32) s)))) : calI PP 25 11 [.ref 0, .int a1] s Q := by
  refine cal_of (me := cm25) (ls := [some (.ref 0), some (.int a1)]) rfl (Nat.le_of_ble_eq_true rfl) rfl ?_
  refine wpc_sl (n := 1) (c' := 11) (pc' := 1) (ls' := [some (.ref 0), some (.int a1)]) (st' := [.int a1]) (s' := s) rfl ?_
  refine wpc_if (a := 14) (b := 4) rfl (by decide) rfl rfl (wpc_br (p := a1 = (0 : Int32)) ⟨fun hc214 => ?_, fun hc214 => ?_⟩)
  · have h215 := h.1 hc214
    refine wpc_sl (n := 2) (c' := 11) (pc' := 19) (ls' := [some (.ref 0), some (.int a1)]) (st' := [.int (1 : Int32)]) (s' := s) rfl ?_
    exact wpc_ret rfl rfl (fun q => absurd q (by decide)) rfl ⟨(1 : Int32), rfl, h215⟩
  · have h216 := h.2 hc214
    refine wpc_sl (n := 2) (c' := 11) (pc' := 6) (ls' := [some (.ref 0), some (.int a1)]) (st' := [.int (1 : Int32), .int a1]) (s' := s) rfl ?_
    refine wpc_icmp (a := 14) (b := 9) rfl (by decide) rfl rfl (wpc_br (p := a1 = (1 : Int32)) ⟨fun hc217 => ?_, fun hc217 => ?_⟩)
    · have h218 := h216.1 hc217
      refine wpc_sl (n := 2) (c' := 11) (pc' := 19) (ls' := [some (.ref 0), some (.int a1)]) (st' := [.int (1 : Int32)]) (s' := s) rfl ?_
      exact wpc_ret rfl rfl (fun q => absurd q (by decide)) rfl ⟨(1 : Int32), rfl, h218⟩
    · have h219 := h216.2 hc217
      refine wpc_sl (n := 2) (c' := 11) (pc' := 11) (ls' := [some (.ref 0), some (.int a1)]) (st' := [.int (2 : Int32), .int a1]) (s' := s) rfl ?_
      refine wpc_icmp (a := 18) (b := 14) rfl (by decide) rfl rfl (wpc_br (p := a1 = (2 : Int32)) ⟨fun hc220 => ?_, fun hc220 => ?_⟩)
      · have h221 := h219.1 hc220
        refine wpc_sl (n := 2) (c' := 11) (pc' := 19) (ls' := [some (.ref 0), some (.int a1)]) (st' := [.int (1 : Int32)]) (s' := s) rfl ?_
        exact wpc_ret rfl rfl (fun q => absurd q (by decide)) rfl ⟨(1 : Int32), rfl, h221⟩
      · have h222 := h219.2 hc220
        refine wpc_sl (n := 1) (c' := 11) (pc' := 19) (ls' := [some (.ref 0), some (.int a1)]) (st' := [.int (0 : Int32)]) (s' := s) rfl ?_
        exact wpc_ret rfl rfl (fun q => absurd q (by decide)) rfl ⟨(0 : Int32), rfl, h222⟩
theorem c22_in (a1 : Int32) (s : St) (Q : Int32 → St → Prop) (h : ((a1 < (1 : Int32)) → Q (0 : Int32) s) ∧ (¬ (a1 < (1 : Int32)) → (((gI s 0 20) < a1) → Q (0 : Int32) s) ∧ (¬ ((gI s 0 20) < a1) → Q (1 : Int32) s))) : calI PP 22 11 [.ref 0, .int a1] s Q := by
  refine cal_of (me := cm22) (ls := [some (.ref 0), some (.int a1)]) rfl (Nat.le_of_ble_eq_true rfl) rfl ?_
  refine wpc_sl (n := 2) (c' := 11) (pc' := 2) (ls' := [some (.ref 0), some (.int a1)]) (st' := [.int (1 : Int32), .int a1]) (s' := s) rfl ?_
  refine wpc_icmp (a := 17) (b := 5) rfl (by decide) rfl rfl (wpc_br (p := a1 < (1 : Int32)) ⟨fun hc254 => ?_, fun hc254 => ?_⟩)
  · have h255 := h.1 hc254
    refine wpc_sl (n := 1) (c' := 11) (pc' := 18) (ls' := [some (.ref 0), some (.int a1)]) (st' := [.int (0 : Int32)]) (s' := s) rfl ?_
    exact wpc_ret rfl rfl (fun q => absurd q (by decide)) rfl ⟨(0 : Int32), rfl, h255⟩
  · have h256 := h.2 hc254
    refine wpc_sl (n := 3) (c' := 11) (pc' := 10) (ls' := [some (.ref 0), some (.int a1)]) (st' := [.int (gI s 0 20), .int a1]) (s' := s) rfl ?_
    refine wpc_icmp (a := 17) (b := 13) rfl (by decide) rfl rfl (wpc_br (p := (gI s 0 20) < a1) ⟨fun hc257 => ?_, fun hc257 => ?_⟩)
    · have h258 := h256.1 hc257
      refine wpc_sl (n := 1) (c' := 11) (pc' := 18) (ls' := [some (.ref 0), some (.int a1)]) (st' := [.int (0 : Int32)]) (s' := s) rfl ?_
      exact wpc_ret rfl rfl (fun q => absurd q (by decide)) rfl ⟨(0 : Int32), rfl, h258⟩
    · have h259 := h256.2 hc257
      refine wpc_sl (n := 2) (c' := 11) (pc' := 18) (ls' := [some (.ref 0), some (.int a1)]) (st' := [.int (1 : Int32)]) (s' := s) rfl ?_
      exact wpc_ret rfl rfl (fun q => absurd q (by decide)) rfl ⟨(1 : Int32), rfl, h259⟩
theorem c23_in (a1 : Int32) (s : St) (Q : Int32 → St → Prop) (h : ((a1 = (0 : Int32)) → Q (1 : Int32) s) ∧ (¬ (a1 = (0 : Int32)) → ((a1 = (1 : Int32)) → Q (1 : Int32) s) ∧ (¬ (a1 = (1 : Int32)) → Q (0 : Int32) s))) : calI PP 23 11 [.ref 0, .int a1] s Q := by
  refine cal_of (me := cm23) (ls := [some (.ref 0), some (.int a1)]) rfl (Nat.le_of_ble_eq_true rfl) rfl ?_
  refine wpc_sl (n := 1) (c' := 11) (pc' := 1) (ls' := [some (.ref 0), some (.int a1)]) (st' := [.int a1]) (s' := s) rfl ?_
  refine wpc_if (a := 9) (b := 4) rfl (by decide) rfl rfl (wpc_br (p := a1 = (0 : Int32)) ⟨fun hc260 => ?_, fun hc260 => ?_⟩)
  · have h261 := h.1 hc260
    refine wpc_sl (n := 2) (c' := 11) (pc' := 14) (ls' := [some (.ref 0), some (.int a1)]) (st' := [.int (1 : Int32)]) (s' := s) rfl ?_
    exact wpc_ret rfl rfl (fun q => absurd q (by decide)) rfl ⟨(1 : Int32), rfl, h261⟩
  · have h262 := h.2 hc260
    refine wpc_sl (n := 2) (c' := 11) (pc' := 6) (ls' := [some (.ref 0), some (.int a1)]) (st' := [.int (1 : Int32), .int a1]) (s' := s) rfl ?_
    refine wpc_icmp (a := 13) (b := 9) rfl (by decide) rfl rfl (wpc_br (p := a1 = (1 : Int32)) ⟨fun hc263 => ?_, fun hc263 => ?_⟩)
    · have h264 := h262.1 hc263
      refine wpc_sl (n := 2) (c' := 11) (pc' := 14) (ls' := [some (.ref 0), some (.int a1)]) (st' := [.int (1 : Int32)]) (s' := s) rfl ?_
      exact wpc_ret rfl rfl (fun q => absurd q (by decide)) rfl ⟨(1 : Int32), rfl, h264⟩
    · have h265 := h262.2 hc263
      refine wpc_sl (n := 1) (c' := 11) (pc' := 14) (ls' := [some (.ref 0), some (.int a1)]) (st' := [.int (0 : Int32)]) (s' := s) rfl ?_
      exact wpc_ret rfl rfl (fun q => absurd q (by decide)) rfl ⟨(0 : Int32), rfl, h265⟩
theorem c31_in (a1 : Int32) (a2 : Int32) (a3 : Int32) (a4 : Int32) (s : St) (Q : Int32 → St → Prop) (h : calI PP 21 11 [.ref 0, .int a1] s (fun v234 s233 => ((v234 = (0 : Int32)) → Q (0 : Int32) s233) ∧ (¬ (v234 = (0 : Int32)) → calI PP 21 11 [.ref 0, .int a2] s233 (fun v240 s239 => ((v240 = (0 : Int32)) → Q (0 : Int32) s239) ∧ (¬ (v240 = (0 : Int32)) → calI PP 22 11 [.ref 0, .int a3] s239 (fun v246 s245 => ((v246 = (0 : Int32)) → Q (0 : Int32) s245) ∧ (¬ (v246 = (0 : Int32)) → calI PP 23 11 [.ref 0, .int a4] s245 (fun v252 s251 => Q (v252 &&& 1) s251)))))))) : calI PP 31 11 [.ref 0, .int a1, .int a2, .int a3, .int a4] s Q := by
  refine cal_of (me := cm31) (ls := [some (.ref 0), some (.int a1), some (.int a2), some (.int a3), some (.int a4)]) rfl (Nat.le_of_ble_eq_true rfl) rfl ?_
  refine wpc_sl (n := 2) (c' := 11) (pc' := 2) (ls' := [some (.ref 0), some (.int a1), some (.int a2), some (.int a3), some (.int a4)]) (st' := [.int a1, .ref 0]) (s' := s) rfl ?_
  refine wpc_callI (m' := 21) (me' := cm21) (as := [.int a1]) (r := []) rfl rfl rfl rfl rfl ⟨by decide, (by first | decide | exact Nat.le_of_ble_eq_true rfl), (by first | decide | exact Nat.le_of_ble_eq_true rfl), rfl⟩ (calI.mono h fun v234 s233 h235 => ?_)
  refine wpc_if (a := 10) (b := 8) rfl (by decide) rfl rfl (wpc_br (p := v234 = (0 : Int32)) ⟨fun hc236 => ?_, fun hc236 => ?_⟩)
  · have h237 := h235.1 hc236
    refine wpc_sl (n := 1) (c' := 11) (pc' := 9) (ls' := [some (.ref 0), some (.int a1), some (.int a2), some (.int a3), some (.int a4)]) (st' := [.int (0 : Int32)]) (s' := s233) rfl ?_
    exact wpc_ret rfl rfl (fun q => absurd q (by decide)) rfl ⟨(0 : Int32), rfl, h237⟩
  · have h238 := h235.2 hc236
    refine wpc_sl (n := 2) (c' := 11) (pc' := 12) (ls' := [some (.ref 0), some (.int a1), some (.int a2), some (.int a3), some (.int a4)]) (st' := [.int a2, .ref 0]) (s' := s233) rfl ?_
    refine wpc_callI (m' := 21) (me' := cm21) (as := [.int a2]) (r := []) rfl rfl rfl rfl rfl ⟨by decide, (by first | decide | exact Nat.le_of_ble_eq_true rfl), (by first | decide | exact Nat.le_of_ble_eq_true rfl), rfl⟩ (calI.mono h238 fun v240 s239 h241 => ?_)
    refine wpc_if (a := 20) (b := 18) rfl (by decide) rfl rfl (wpc_br (p := v240 = (0 : Int32)) ⟨fun hc242 => ?_, fun hc242 => ?_⟩)
    · have h243 := h241.1 hc242
      refine wpc_sl (n := 1) (c' := 11) (pc' := 19) (ls' := [some (.ref 0), some (.int a1), some (.int a2), some (.int a3), some (.int a4)]) (st' := [.int (0 : Int32)]) (s' := s239) rfl ?_
      exact wpc_ret rfl rfl (fun q => absurd q (by decide)) rfl ⟨(0 : Int32), rfl, h243⟩
    · have h244 := h241.2 hc242
      refine wpc_sl (n := 2) (c' := 11) (pc' := 22) (ls' := [some (.ref 0), some (.int a1), some (.int a2), some (.int a3), some (.int a4)]) (st' := [.int a3, .ref 0]) (s' := s239) rfl ?_
      refine wpc_callI (m' := 22) (me' := cm22) (as := [.int a3]) (r := []) rfl rfl rfl rfl rfl ⟨by decide, (by first | decide | exact Nat.le_of_ble_eq_true rfl), (by first | decide | exact Nat.le_of_ble_eq_true rfl), rfl⟩ (calI.mono h244 fun v246 s245 h247 => ?_)
      refine wpc_if (a := 30) (b := 28) rfl (by decide) rfl rfl (wpc_br (p := v246 = (0 : Int32)) ⟨fun hc248 => ?_, fun hc248 => ?_⟩)
      · have h249 := h247.1 hc248
        refine wpc_sl (n := 1) (c' := 11) (pc' := 29) (ls' := [some (.ref 0), some (.int a1), some (.int a2), some (.int a3), some (.int a4)]) (st' := [.int (0 : Int32)]) (s' := s245) rfl ?_
        exact wpc_ret rfl rfl (fun q => absurd q (by decide)) rfl ⟨(0 : Int32), rfl, h249⟩
      · have h250 := h247.2 hc248
        refine wpc_sl (n := 2) (c' := 11) (pc' := 33) (ls' := [some (.ref 0), some (.int a1), some (.int a2), some (.int a3), some (.int a4)]) (st' := [.int a4, .ref 0]) (s' := s245) rfl ?_
        refine wpc_callI (m' := 23) (me' := cm23) (as := [.int a4]) (r := []) rfl rfl rfl rfl rfl ⟨by decide, (by first | decide | exact Nat.le_of_ble_eq_true rfl), (by first | decide | exact Nat.le_of_ble_eq_true rfl), rfl⟩ (calI.mono h250 fun v252 s251 h253 => ?_)
        exact wpc_ret rfl rfl (fun q => absurd q (by decide)) rfl ⟨(v252 &&& 1), rfl, h253⟩
theorem c29_in (a1 : Int32) (a2 : Int32) (a3 : Int32) (s : St) (Q : Int32 → St → Prop) (h : Q ((((a1 * (8 : Int32)) + (a2 - (1 : Int32))) * (2 : Int32)) + a3) s) : calI PP 29 11 [.ref 0, .int a1, .int a2, .int a3] s Q := by
  refine cal_of (me := cm29) (ls := [some (.ref 0), some (.int a1), some (.int a2), some (.int a3)]) rfl (Nat.le_of_ble_eq_true rfl) rfl ?_
  refine wpc_sl (n := 11) (c' := 11) (pc' := 12) (ls' := [some (.ref 0), some (.int a1), some (.int a2), some (.int a3)]) (st' := [.int ((((a1 * (8 : Int32)) + (a2 - (1 : Int32))) * (2 : Int32)) + a3)]) (s' := s) rfl ?_
  exact wpc_ret rfl rfl (fun q => absurd q (by decide)) rfl ⟨((((a1 * (8 : Int32)) + (a2 - (1 : Int32))) * (2 : Int32)) + a3), rfl, h⟩
theorem c33_in (a1 : Int32) (a2 : Int32) (a3 : Int32) (a4 : Int32) (s : St) (Q : St → Prop) (h : calI PP 31 11 [.ref 0, .int a1, .int (0 : Int32), .int a2, .int a3] s (fun v224 s223 => ((v224 = (0 : Int32)) → Q s223) ∧ (¬ (v224 = (0 : Int32)) → calI PP 29 11 [.ref 0, .int a1, .int a2, .int a3] s223 (fun v230 s229 => inb 112 v230 ∧ Q (sI s229 10 (ix v230) a4))))) : calV PP 33 11 [.ref 0, .int a1, .int a2, .int a3, .int a4] s Q := by
  refine cal_of (me := cm33) (ls := [some (.ref 0), some (.int a1), some (.int a2), some (.int a3), some (.int a4)]) rfl (Nat.le_of_ble_eq_true rfl) rfl ?_
  refine wpc_sl (n := 5) (c' := 11) (pc' := 5) (ls' := [some (.ref 0), some (.int a1), some (.int a2), some (.int a3), some (.int a4)]) (st' := [.int a3, .int a2, .int (0 : Int32), .int a1, .ref 0]) (s' := s) rfl ?_
  refine wpc_callI (m' := 31) (me' := cm31) (as := [.int a1, .int (0 : Int32), .int a2, .int a3]) (r := []) rfl rfl rfl rfl rfl ⟨by decide, (by first | decide | exact Nat.le_of_ble_eq_true rfl), (by first | decide | exact Nat.le_of_ble_eq_true rfl), rfl⟩ (calI.mono h fun v224 s223 h225 => ?_)
  refine wpc_if (a := 12) (b := 11) rfl (by decide) rfl rfl (wpc_br (p := v224 = (0 : Int32)) ⟨fun hc226 => ?_, fun hc226 => ?_⟩)
  · have h227 := h225.1 hc226
    exact wpc_ret rfl rfl (fun q => absurd q (by decide)) rfl ⟨rfl, h227⟩
  · have h228 := h225.2 hc226
    refine wpc_sl (n := 6) (c' := 11) (pc' := 20) (ls' := [some (.ref 0), some (.int a1), some (.int a2), some (.int a3), some (.int a4)]) (st' := [.int a3, .int a2, .int a1, .ref 0, .ref 10]) (s' := s223) rfl ?_
    refine wpc_callI (m' := 29) (me' := cm29) (as := [.int a1, .int a2, .int a3]) (r := [.ref 10]) rfl rfl rfl rfl rfl ⟨by decide, (by first | decide | exact Nat.le_of_ble_eq_true rfl), (by first | decide | exact Nat.le_of_ble_eq_true rfl), rfl⟩ (calI.mono h228 fun v230 s229 h231 => ?_)
    refine wpc_sl (n := 1) (c' := 11) (pc' := 25) (ls' := [some (.ref 0), some (.int a1), some (.int a2), some (.int a3), some (.int a4)]) (st' := [.int a4, .int v230, .ref 10]) (s' := s229) rfl ?_
    refine wpc_staI (a := 9) (N := 112) (s' := (sI s229 10 (ix v230) a4)) rfl rfl (by decide) h231.1 rfl ?_
    have h232 := h231.2
    exact wpc_ret rfl rfl (fun q => absurd q (by decide)) rfl ⟨rfl, h232⟩
theorem c30_in (a1 : Int32) (a2 : Int32) (a3 : Int32) (a4 : Int32) (s : St) (Q : Int32 → St → Prop) (h : Q ((((((a1 * (7 : Int32)) + a2) * (8 : Int32)) + (a3 - (1 : Int32))) * (2 : Int32)) + a4) s) : calI PP 30 11 [.ref 0, .int a1, .int a2, .int a3, .int a4] s Q := by
  refine cal_of (me := cm30) (ls := [some (.ref 0), some (.int a1), some (.int a2), some (.int a3), some (.int a4)]) rfl (Nat.le_of_ble_eq_true rfl) rfl ?_
  refine wpc_sl (n := 15) (c' := 11) (pc' := 18) (ls' := [some (.ref 0), some (.int a1), some (.int a2), some (.int a3), some (.int a4)]) (st' := [.int ((((((a1 * (7 : Int32)) + a2) * (8 : Int32)) + (a3 - (1 : Int32))) * (2 : Int32)) + a4)]) (s' := s) rfl ?_
  exact wpc_ret rfl rfl (fun q => absurd q (by decide)) rfl ⟨((((((a1 * (7 : Int32)) + a2) * (8 : Int32)) + (a3 - (1 : Int32))) * (2 : Int32)) + a4), rfl, h⟩
theorem c35_in (a1 : Int32) (a2 : Int32) (a3 : Int32) (a4 : Int32) (a5 : Int32) (s : St) (Q : St → Prop) (h : calI PP 31 11 [.ref 0, .int a1, .int a2, .int a3, .int a4] s (fun v267 s266 => ((v267 = (0 : Int32)) → Q s266) ∧ (¬ (v267 = (0 : Int32)) → calI PP 30 11 [.ref 0, .int a1, .int a2, .int a3, .int a4] s266 (fun v273 s272 => inb 784 v273 ∧ Q (sI s272 11 (ix v273) a5))))) : calV PP 35 11 [.ref 0, .int a1, .int a2, .int a3, .int a4, .int a5] s Q := by
  refine cal_of (me := cm35) (ls := [some (.ref 0), some (.int a1), some (.int a2), some (.int a3), some (.int a4), some (.int a5)]) rfl (Nat.le_of_ble_eq_true rfl) rfl ?_
  refine wpc_sl (n := 5) (c' := 11) (pc' := 6) (ls' := [some (.ref 0), some (.int a1), some (.int a2), some (.int a3), some (.int a4), some (.int a5)]) (st' := [.int a4, .int a3, .int a2, .int a1, .ref 0]) (s' := s) rfl ?_
  refine wpc_callI (m' := 31) (me' := cm31) (as := [.int a1, .int a2, .int a3, .int a4]) (r := []) rfl rfl rfl rfl rfl ⟨by decide, (by first | decide | exact Nat.le_of_ble_eq_true rfl), (by first | decide | exact Nat.le_of_ble_eq_true rfl), rfl⟩ (calI.mono h fun v267 s266 h268 => ?_)
  refine wpc_if (a := 13) (b := 12) rfl (by decide) rfl rfl (wpc_br (p := v267 = (0 : Int32)) ⟨fun hc269 => ?_, fun hc269 => ?_⟩)
  · have h270 := h268.1 hc269
    exact wpc_ret rfl rfl (fun q => absurd q (by decide)) rfl ⟨rfl, h270⟩
  · have h271 := h268.2 hc269
    refine wpc_sl (n := 7) (c' := 11) (pc' := 23) (ls' := [some (.ref 0), some (.int a1), some (.int a2), some (.int a3), some (.int a4), some (.int a5)]) (st' := [.int a4, .int a3, .int a2, .int a1, .ref 0, .ref 11]) (s' := s266) rfl ?_
    refine wpc_callI (m' := 30) (me' := cm30) (as := [.int a1, .int a2, .int a3, .int a4]) (r := [.ref 11]) rfl rfl rfl rfl rfl ⟨by decide, (by first | decide | exact Nat.le_of_ble_eq_true rfl), (by first | decide | exact Nat.le_of_ble_eq_true rfl), rfl⟩ (calI.mono h271 fun v273 s272 h274 => ?_)
    refine wpc_sl (n := 1) (c' := 11) (pc' := 28) (ls' := [some (.ref 0), some (.int a1), some (.int a2), some (.int a3), some (.int a4), some (.int a5)]) (st' := [.int a5, .int v273, .ref 11]) (s' := s272) rfl ?_
    refine wpc_staI (a := 10) (N := 784) (s' := (sI s272 11 (ix v273) a5)) rfl rfl (by decide) h274.1 rfl ?_
    have h275 := h274.2
    exact wpc_ret rfl rfl (fun q => absurd q (by decide)) rfl ⟨rfl, h275⟩
theorem c36_in (a1 : Int32) (a2 : Int32) (a3 : Int32) (a4 : Int32) (s : St) (Q : St → Prop) (h : calI PP 25 11 [.ref 0, .int a4] s (fun v200 s199 => ((v200 = (0 : Int32)) → Q s199) ∧ (¬ (v200 = (0 : Int32)) → calV PP 33 11 [.ref 0, .int a1, .int a2, .int a3, .int a4] s199 (fun s205 => wpcV PP 36 cm36 11 22 [some (.ref 0), some (.int a1), some (.int a2), some (.int a3), none, some (.int (0 : Int32))] [] s205 Q)))) : calV PP 36 11 [.ref 0, .int a1, .int a2, .int a3, .int a4] s Q := by
  refine cal_of (me := cm36) (ls := [some (.ref 0), some (.int a1), some (.int a2), some (.int a3), some (.int a4), none]) rfl (Nat.le_of_ble_eq_true rfl) rfl ?_
  refine wpc_sl (n := 2) (c' := 11) (pc' := 3) (ls' := [some (.ref 0), some (.int a1), some (.int a2), some (.int a3), some (.int a4), none]) (st' := [.int a4, .ref 0]) (s' := s) rfl ?_
  refine wpc_callI (m' := 25) (me' := cm25) (as := [.int a4]) (r := []) rfl rfl rfl rfl rfl ⟨by decide, (by first | decide | exact Nat.le_of_ble_eq_true rfl), (by first | decide | exact Nat.le_of_ble_eq_true rfl), rfl⟩ (calI.mono h fun v200 s199 h201 => ?_)
  refine wpc_if (a := 10) (b := 9) rfl (by decide) rfl rfl (wpc_br (p := v200 = (0 : Int32)) ⟨fun hc202 => ?_, fun hc202 => ?_⟩)
  · have h203 := h201.1 hc202
    exact wpc_ret rfl rfl (fun q => absurd q (by decide)) rfl ⟨rfl, h203⟩
  · have h204 := h201.2 hc202
    refine wpc_sl (n := 5) (c' := 11) (pc' := 16) (ls' := [some (.ref 0), some (.int a1), some (.int a2), some (.int a3), some (.int a4), none]) (st' := [.int a4, .int a3, .int a2, .int a1, .ref 0]) (s' := s199) rfl ?_
    refine wpc_callV (m' := 33) (me' := cm33) (as := [.int a1, .int a2, .int a3, .int a4]) (r := []) rfl rfl rfl rfl rfl ⟨by decide, (by first | decide | exact Nat.le_of_ble_eq_true rfl), (by first | decide | exact Nat.le_of_ble_eq_true rfl), rfl⟩ (calV.mono h204 fun s205 h207 => ?_)
    refine wpc_sl (n := 2) (c' := 11) (pc' := 22) (ls' := [some (.ref 0), some (.int a1), some (.int a2), some (.int a3), some (.int a4), some (.int (0 : Int32))]) (st' := []) (s' := s205) rfl ?_
    exact wpc_lle (ls := [some (.ref 0), some (.int a1), some (.int a2), some (.int a3), none, some (.int (0 : Int32))]) ⟨rfl, rfl, rfl, rfl, rfl, trivial⟩ h207
theorem c36_22 (x1 : Int32) (x2 : Int32) (x3 : Int32) (x5 : Int32) (s : St) (Q : St → Prop) (h : ((x5 < (7 : Int32)) → calV PP 35 11 [.ref 0, .int x1, .int x5, .int x2, .int x3, .int (1 : Int32)] s (fun s211 => wpcV PP 36 cm36 11 22 [some (.ref 0), some (.int x1), some (.int x2), some (.int x3), none, some (.int (x5 + (1 : Int32)))] [] s211 Q)) ∧ (¬ (x5 < (7 : Int32)) → Q s)) : wpcV PP 36 cm36 11 22 [some (.ref 0), some (.int x1), some (.int x2), some (.int x3), none, some (.int x5)] [] s Q := by
  refine wpc_sl (n := 2) (c' := 11) (pc' := 26) (ls' := [some (.ref 0), some (.int x1), some (.int x2), some (.int x3), none, some (.int x5)]) (st' := [.int (7 : Int32), .int x5]) (s' := s) rfl ?_
  refine wpc_icmp (a := 45) (b := 29) rfl (by decide) rfl rfl (wpc_br (p := x5 < (7 : Int32)) ⟨fun hc208 => ?_, fun hc208 => ?_⟩)
  · have h209 := h.1 hc208
    refine wpc_sl (n := 6) (c' := 11) (pc' := 36) (ls' := [some (.ref 0), some (.int x1), some (.int x2), some (.int x3), none, some (.int x5)]) (st' := [.int (1 : Int32), .int x3, .int x2, .int x5, .int x1, .ref 0]) (s' := s) rfl ?_
    refine wpc_callV (m' := 35) (me' := cm35) (as := [.int x1, .int x5, .int x2, .int x3, .int (1 : Int32)]) (r := []) rfl rfl rfl rfl rfl ⟨by decide, (by first | decide | exact Nat.le_of_ble_eq_true rfl), (by first | decide | exact Nat.le_of_ble_eq_true rfl), rfl⟩ (calV.mono h209 fun s211 h213 => ?_)
    refine wpc_sl (n := 2) (c' := 11) (pc' := 22) (ls' := [some (.ref 0), some (.int x1), some (.int x2), some (.int x3), none, some (.int (x5 + (1 : Int32)))]) (st' := []) (s' := s211) rfl ?_
    exact h213
  · have h210 := h.2 hc208
    exact wpc_ret rfl rfl (fun q => absurd q (by decide)) rfl ⟨rfl, h210⟩
theorem c34_in (a1 : Int32) (a2 : Int32) (a3 : Int32) (a4 : Int32) (s : St) (Q : Int32 → St → Prop) (h : calI PP 31 11 [.ref 0, .int a1, .int a2, .int a3, .int a4] s (fun v341 s340 => ((v341 = (0 : Int32)) → Q (-1 : Int32) s340) ∧ (¬ (v341 = (0 : Int32)) → calI PP 30 11 [.ref 0, .int a1, .int a2, .int a3, .int a4] s340 (fun v347 s346 => inb 784 v347 ∧ Q (gI s346 11 (ix v347)) s346)))) : calI PP 34 11 [.ref 0, .int a1, .int a2, .int a3, .int a4] s Q := by
  refine cal_of (me := cm34) (ls := [some (.ref 0), some (.int a1), some (.int a2), some (.int a3), some (.int a4)]) rfl (Nat.le_of_ble_eq_true rfl) rfl ?_
  refine wpc_sl (n := 5) (c' := 11) (pc' := 6) (ls' := [some (.ref 0), some (.int a1), some (.int a2), some (.int a3), some (.int a4)]) (st' := [.int a4, .int a3, .int a2, .int a1, .ref 0]) (s' := s) rfl ?_
  refine wpc_callI (m' := 31) (me' := cm31) (as := [.int a1, .int a2, .int a3, .int a4]) (r := []) rfl rfl rfl rfl rfl ⟨by decide, (by first | decide | exact Nat.le_of_ble_eq_true rfl), (by first | decide | exact Nat.le_of_ble_eq_true rfl), rfl⟩ (calI.mono h fun v341 s340 h342 => ?_)
  refine wpc_if (a := 14) (b := 12) rfl (by decide) rfl rfl (wpc_br (p := v341 = (0 : Int32)) ⟨fun hc343 => ?_, fun hc343 => ?_⟩)
  · have h344 := h342.1 hc343
    refine wpc_sl (n := 1) (c' := 11) (pc' := 13) (ls' := [some (.ref 0), some (.int a1), some (.int a2), some (.int a3), some (.int a4)]) (st' := [.int (-1 : Int32)]) (s' := s340) rfl ?_
    exact wpc_ret rfl rfl (fun q => absurd q (by decide)) rfl ⟨(-1 : Int32), rfl, h344⟩
  · have h345 := h342.2 hc343
    refine wpc_sl (n := 7) (c' := 11) (pc' := 24) (ls' := [some (.ref 0), some (.int a1), some (.int a2), some (.int a3), some (.int a4)]) (st' := [.int a4, .int a3, .int a2, .int a1, .ref 0, .ref 11]) (s' := s340) rfl ?_
    refine wpc_callI (m' := 30) (me' := cm30) (as := [.int a1, .int a2, .int a3, .int a4]) (r := [.ref 11]) rfl rfl rfl rfl rfl ⟨by decide, (by first | decide | exact Nat.le_of_ble_eq_true rfl), (by first | decide | exact Nat.le_of_ble_eq_true rfl), rfl⟩ (calI.mono h345 fun v347 s346 h348 => ?_)
    refine wpc_ldaI (a := 10) (N := 784) (v := (gI s346 11 (ix v347))) rfl rfl (by decide) h348.1 rfl ?_
    have h349 := h348.2
    exact wpc_ret rfl rfl (fun q => absurd q (by decide)) rfl ⟨(gI s346 11 (ix v347)), rfl, h349⟩
theorem c40_in (a1 : Int32) (a2 : Int32) (a3 : Int32) (s : St) (Q : Int32 → St → Prop) (h : wpcI PP 40 cm40 11 6 [some (.ref 0), some (.int a1), some (.int a2), some (.int a3), some (.int (0 : Int32)), some (.int (0 : Int32))] [] s Q) : calI PP 40 11 [.ref 0, .int a1, .int a2, .int a3] s Q := by
  refine cal_of (me := cm40) (ls := [some (.ref 0), some (.int a1), some (.int a2), some (.int a3), none, none]) rfl (Nat.le_of_ble_eq_true rfl) rfl ?_
  refine wpc_sl (n := 4) (c' := 11) (pc' := 6) (ls' := [some (.ref 0), some (.int a1), some (.int a2), some (.int a3), some (.int (0 : Int32)), some (.int (0 : Int32))]) (st' := []) (s' := s) rfl ?_
  exact h
theorem c40_6 (x1 : Int32) (x2 : Int32) (x3 : Int32) (x4 : Int32) (x5 : Int32) (s : St) (Q : Int32 → St → Prop) (h : ((x5 < (7 : Int32)) → calI PP 34 11 [.ref 0, .int x5, .int x1, .int x2, .int x3] s (fun v334 s333 => ∀ m336, m336 = (if v334 = (2 : Int32) then (x4 + (1 : Int32)) else x4) → (wpcI PP 40 cm40 11 6 [some (.ref 0), some (.int x1), some (.int x2), some (.int x3), some (.int m336), some (.int (x5 + (1 : Int32)))] [] s333 Q))) ∧ (¬ (x5 < (7 : Int32)) → Q x4 s)) : wpcI PP 40 cm40 11 6 [some (.ref 0), some (.int x1), some (.int x2), some (.int x3), some (.int x4), some (.int x5)] [] s Q := by
  refine wpc_sl (n := 2) (c' := 11) (pc' := 10) (ls' := [some (.ref 0), some (.int x1), some (.int x2), some (.int x3), some (.int x4), some (.int x5)]) (st' := [.int (7 : Int32), .int x5]) (s' := s) rfl ?_
  refine wpc_icmp (a := 35) (b := 13) rfl (by decide) rfl rfl (wpc_br (p := x5 < (7 : Int32)) ⟨fun hc330 => ?_, fun hc330 => ?_⟩)
  · have h331 := h.1 hc330
    refine wpc_sl (n := 5) (c' := 11) (pc' := 19) (ls' := [some (.ref 0), some (.int x1), some (.int x2), some (.int x3), some (.int x4), some (.int x5)]) (st' := [.int x3, .int x2, .int x1, .int x5, .ref 0]) (s' := s) rfl ?_
    refine wpc_callI (m' := 34) (me' := cm34) (as := [.int x5, .int x1, .int x2, .int x3]) (r := []) rfl rfl rfl rfl rfl ⟨by decide, (by first | decide | exact Nat.le_of_ble_eq_true rfl), (by first | decide | exact Nat.le_of_ble_eq_true rfl), rfl⟩ (calI.mono h331 fun v334 s333 h335 => ?_)
    refine wpc_sl (n := 1) (c' := 11) (pc' := 23) (ls' := [some (.ref 0), some (.int x1), some (.int x2), some (.int x3), some (.int x4), some (.int x5)]) (st' := [.int (2 : Int32), .int v334]) (s' := s333) rfl ?_
    have hm337 : ∀ m336, m336 = (if v334 = (2 : Int32) then (x4 + (1 : Int32)) else x4) → wpcI PP 40 cm40 11 29 [some (.ref 0), some (.int x1), some (.int x2), some (.int x3), some (.int m336), some (.int x5)] [] s333 Q := by
      intro m336 em336
      have h338 := h335 m336 em336
      refine wpc_sl (n := 2) (c' := 11) (pc' := 6) (ls' := [some (.ref 0), some (.int x1), some (.int x2), some (.int x3), some (.int m336), some (.int (x5 + (1 : Int32)))]) (st' := []) (s' := s333) rfl ?_
      exact h338
    refine wpc_icmp (a := 29) (b := 26) rfl (by decide) rfl rfl (wpc_br (p := v334 = (2 : Int32)) ⟨fun hc339 => ?_, fun hc339 => ?_⟩)
    · refine wpc_sl (n := 1) (c' := 11) (pc' := 29) (ls' := [some (.ref 0), some (.int x1), some (.int x2), some (.int x3), some (.int (x4 + (1 : Int32))), some (.int x5)]) (st' := []) (s' := s333) rfl ?_
      first | exact hm337 _ (by simp only [if_pos hc339]) | exact wpc_lle (by repeat (first | exact trivial | refine ⟨rfl, ?_⟩)) (hm337 _ (by simp only [if_pos hc339]))
    · first | exact hm337 _ (by simp only [if_neg hc339]) | exact wpc_lle (by repeat (first | exact trivial | refine ⟨rfl, ?_⟩)) (hm337 _ (by simp only [if_neg hc339]))
  · have h332 := h.2 hc330
    refine wpc_sl (n := 1) (c' := 11) (pc' := 37) (ls' := [some (.ref 0), some (.int x1), some (.int x2), some (.int x3), some (.int x4), some (.int x5)]) (st' := [.int x4]) (s' := s) rfl ?_
    exact wpc_ret rfl rfl (fun q => absurd q (by decide)) rfl ⟨x4, rfl, h332⟩
theorem c32_in (a1 : Int32) (a2 : Int32) (a3 : Int32) (s : St) (Q : Int32 → St → Prop) (h : calI PP 31 11 [.ref 0, .int a1, .int (0 : Int32), .int a2, .int a3] s (fun v367 s366 => ((v367 = (0 : Int32)) → Q (-1 : Int32) s366) ∧ (¬ (v367 = (0 : Int32)) → calI PP 29 11 [.ref 0, .int a1, .int a2, .int a3] s366 (fun v373 s372 => inb 112 v373 ∧ Q (gI s372 10 (ix v373)) s372)))) : calI PP 32 11 [.ref 0, .int a1, .int a2, .int a3] s Q := by
  refine cal_of (me := cm32) (ls := [some (.ref 0), some (.int a1), some (.int a2), some (.int a3)]) rfl (Nat.le_of_ble_eq_true rfl) rfl ?_
  refine wpc_sl (n := 5) (c' := 11) (pc' := 5) (ls' := [some (.ref 0), some (.int a1), some (.int a2), some (.int a3)]) (st' := [.int a3, .int a2, .int (0 : Int32), .int a1, .ref 0]) (s' := s) rfl ?_
  refine wpc_callI (m' := 31) (me' := cm31) (as := [.int a1, .int (0 : Int32), .int a2, .int a3]) (r := []) rfl rfl rfl rfl rfl ⟨by decide, (by first | decide | exact Nat.le_of_ble_eq_true rfl), (by first | decide | exact Nat.le_of_ble_eq_true rfl), rfl⟩ (calI.mono h fun v367 s366 h368 => ?_)
  refine wpc_if (a := 13) (b := 11) rfl (by decide) rfl rfl (wpc_br (p := v367 = (0 : Int32)) ⟨fun hc369 => ?_, fun hc369 => ?_⟩)
  · have h370 := h368.1 hc369
    refine wpc_sl (n := 1) (c' := 11) (pc' := 12) (ls' := [some (.ref 0), some (.int a1), some (.int a2), some (.int a3)]) (st' := [.int (-1 : Int32)]) (s' := s366) rfl ?_
    exact wpc_ret rfl rfl (fun q => absurd q (by decide)) rfl ⟨(-1 : Int32), rfl, h370⟩
  · have h371 := h368.2 hc369
    refine wpc_sl (n := 6) (c' := 11) (pc' := 21) (ls' := [some (.ref 0), some (.int a1), some (.int a2), some (.int a3)]) (st' := [.int a3, .int a2, .int a1, .ref 0, .ref 10]) (s' := s366) rfl ?_
    refine wpc_callI (m' := 29) (me' := cm29) (as := [.int a1, .int a2, .int a3]) (r := [.ref 10]) rfl rfl rfl rfl rfl ⟨by decide, (by first | decide | exact Nat.le_of_ble_eq_true rfl), (by first | decide | exact Nat.le_of_ble_eq_true rfl), rfl⟩ (calI.mono h371 fun v373 s372 h374 => ?_)
    refine wpc_ldaI (a := 9) (N := 112) (v := (gI s372 10 (ix v373))) rfl rfl (by decide) h374.1 rfl ?_
    have h375 := h374.2
    exact wpc_ret rfl rfl (fun q => absurd q (by decide)) rfl ⟨(gI s372 10 (ix v373)), rfl, h375⟩
theorem c41_in (a1 : Int32) (a2 : Int32) (a3 : Int32) (a4 : Int32) (s : St) (Q : Int32 → St → Prop) (h : wpcI PP 41 cm41 11 6 [some (.ref 0), some (.int a1), some (.int a2), some (.int a3), some (.int a4), some (.int (0 : Int32)), some (.int (0 : Int32))] [] s Q) : calI PP 41 11 [.ref 0, .int a1, .int a2, .int a3, .int a4] s Q := by
  refine cal_of (me := cm41) (ls := [some (.ref 0), some (.int a1), some (.int a2), some (.int a3), some (.int a4), none, none]) rfl (Nat.le_of_ble_eq_true rfl) rfl ?_
  refine wpc_sl (n := 4) (c' := 11) (pc' := 6) (ls' := [some (.ref 0), some (.int a1), some (.int a2), some (.int a3), some (.int a4), some (.int (0 : Int32)), some (.int (0 : Int32))]) (st' := []) (s' := s) rfl ?_
  exact h
theorem c41_6 (x1 : Int32) (x2 : Int32) (x3 : Int32) (x4 : Int32) (x5 : Int32) (x6 : Int32) (s : St) (Q : Int32 → St → Prop) (h : ((x6 < (7 : Int32)) → calI PP 34 11 [.ref 0, .int x6, .int x1, .int x2, .int x3] s (fun v354 s353 => ((v354 = (2 : Int32)) → calI PP 32 11 [.ref 0, .int x6, .int x2, .int x3] s353 (fun v360 s359 => ∀ m362, m362 = (if v360 = x4 then (x5 + (1 : Int32)) else x5) → (wpcI PP 41 cm41 11 42 [some (.ref 0), some (.int x1), some (.int x2), some (.int x3), some (.int x4), some (.int m362), some (.int x6)] [] s359 Q))) ∧ (¬ (v354 = (2 : Int32)) → wpcI PP 41 cm41 11 42 [some (.ref 0), some (.int x1), some (.int x2), some (.int x3), some (.int x4), some (.int x5), some (.int x6)] [] s353 Q))) ∧ (¬ (x6 < (7 : Int32)) → Q x5 s)) : wpcI PP 41 cm41 11 6 [some (.ref 0), some (.int x1), some (.int x2), some (.int x3), some (.int x4), some (.int x5), some (.int x6)] [] s Q := by
  refine wpc_sl (n := 2) (c' := 11) (pc' := 10) (ls' := [some (.ref 0), some (.int x1), some (.int x2), some (.int x3), some (.int x4), some (.int x5), some (.int x6)]) (st' := [.int (7 : Int32), .int x6]) (s' := s) rfl ?_
  refine wpc_icmp (a := 48) (b := 13) rfl (by decide) rfl rfl (wpc_br (p := x6 < (7 : Int32)) ⟨fun hc350 => ?_, fun hc350 => ?_⟩)
  · have h351 := h.1 hc350
    refine wpc_sl (n := 5) (c' := 11) (pc' := 19) (ls' := [some (.ref 0), some (.int x1), some (.int x2), some (.int x3), some (.int x4), some (.int x5), some (.int x6)]) (st' := [.int x3, .int x2, .int x1, .int x6, .ref 0]) (s' := s) rfl ?_
    refine wpc_callI (m' := 34) (me' := cm34) (as := [.int x6, .int x1, .int x2, .int x3]) (r := []) rfl rfl rfl rfl rfl ⟨by decide, (by first | decide | exact Nat.le_of_ble_eq_true rfl), (by first | decide | exact Nat.le_of_ble_eq_true rfl), rfl⟩ (calI.mono h351 fun v354 s353 h355 => ?_)
    refine wpc_sl (n := 1) (c' := 11) (pc' := 23) (ls' := [some (.ref 0), some (.int x1), some (.int x2), some (.int x3), some (.int x4), some (.int x5), some (.int x6)]) (st' := [.int (2 : Int32), .int v354]) (s' := s353) rfl ?_
    refine wpc_icmp (a := 42) (b := 26) rfl (by decide) rfl rfl (wpc_br (p := v354 = (2 : Int32)) ⟨fun hc356 => ?_, fun hc356 => ?_⟩)
    · have h357 := h355.1 hc356
      refine wpc_sl (n := 4) (c' := 11) (pc' := 31) (ls' := [some (.ref 0), some (.int x1), some (.int x2), some (.int x3), some (.int x4), some (.int x5), some (.int x6)]) (st' := [.int x3, .int x2, .int x6, .ref 0]) (s' := s353) rfl ?_
      refine wpc_callI (m' := 32) (me' := cm32) (as := [.int x6, .int x2, .int x3]) (r := []) rfl rfl rfl rfl rfl ⟨by decide, (by first | decide | exact Nat.le_of_ble_eq_true rfl), (by first | decide | exact Nat.le_of_ble_eq_true rfl), rfl⟩ (calI.mono h357 fun v360 s359 h361 => ?_)
      refine wpc_sl (n := 1) (c' := 11) (pc' := 36) (ls' := [some (.ref 0), some (.int x1), some (.int x2), some (.int x3), some (.int x4), some (.int x5), some (.int x6)]) (st' := [.int x4, .int v360]) (s' := s359) rfl ?_
      have hm363 : ∀ m362, m362 = (if v360 = x4 then (x5 + (1 : Int32)) else x5) → wpcI PP 41 cm41 11 42 [some (.ref 0), some (.int x1), some (.int x2), some (.int x3), some (.int x4), some (.int m362), some (.int x6)] [] s359 Q := by
        intro m362 em362
        have h364 := h361 m362 em362
        exact h364
      refine wpc_icmp (a := 42) (b := 39) rfl (by decide) rfl rfl (wpc_br (p := v360 = x4) ⟨fun hc365 => ?_, fun hc365 => ?_⟩)
      · refine wpc_sl (n := 1) (c' := 11) (pc' := 42) (ls' := [some (.ref 0), some (.int x1), some (.int x2), some (.int x3), some (.int x4), some (.int (x5 + (1 : Int32))), some (.int x6)]) (st' := []) (s' := s359) rfl ?_
        first | exact hm363 _ (by simp only [if_pos hc365]) | exact wpc_lle (by repeat (first | exact trivial | refine ⟨rfl, ?_⟩)) (hm363 _ (by simp only [if_pos hc365]))
      · first | exact hm363 _ (by simp only [if_neg hc365]) | exact wpc_lle (by repeat (first | exact trivial | refine ⟨rfl, ?_⟩)) (hm363 _ (by simp only [if_neg hc365]))
    · have h358 := h355.2 hc356
      exact h358
  · have h352 := h.2 hc350
    refine wpc_sl (n := 1) (c' := 11) (pc' := 50) (ls' := [some (.ref 0), some (.int x1), some (.int x2), some (.int x3), some (.int x4), some (.int x5), some (.int x6)]) (st' := [.int x5]) (s' := s) rfl ?_
    exact wpc_ret rfl rfl (fun q => absurd q (by decide)) rfl ⟨x5, rfl, h352⟩
theorem c41_42 (x1 : Int32) (x2 : Int32) (x3 : Int32) (x4 : Int32) (x5 : Int32) (x6 : Int32) (s : St) (Q : Int32 → St → Prop) (h : wpcI PP 41 cm41 11 6 [some (.ref 0), some (.int x1), some (.int x2), some (.int x3), some (.int x4), some (.int x5), some (.int (x6 + (1 : Int32)))] [] s Q) : wpcI PP 41 cm41 11 42 [some (.ref 0), some (.int x1), some (.int x2), some (.int x3), some (.int x4), some (.int x5), some (.int x6)] [] s Q := by
  refine wpc_sl (n := 2) (c' := 11) (pc' := 6) (ls' := [some (.ref 0), some (.int x1), some (.int x2), some (.int x3), some (.int x4), some (.int x5), some (.int (x6 + (1 : Int32)))]) (st' := []) (s' := s) rfl ?_
  exact h
theorem c44_in (a1 : Int32) (a2 : Int32) (s : St) (Q : Int32 → St → Prop) (h : (((7 : Int32) < ((2 : Int32) * a1)) → Q (0 : Int32) s) ∧ (¬ ((7 : Int32) < ((2 : Int32) * a1)) → (((7 : Int32) < ((2 : Int32) * a2)) → Q (1 : Int32) s) ∧ (¬ ((7 : Int32) < ((2 : Int32) * a2)) → Q (2 : Int32) s))) : calI PP 44 11 [.ref 0, .int a1, .int a2] s Q := by
  refine cal_of (me := cm44) (ls := [some (.ref 0), some (.int a1), some (.int a2)]) rfl (Nat.le_of_ble_eq_true rfl) rfl ?_
  refine wpc_sl (n := 4) (c' := 11) (pc' := 5) (ls' := [some (.ref 0), some (.int a1), some (.int a2)]) (st' := [.int (7 : Int32), .int ((2 : Int32) * a1)]) (s' := s) rfl ?_
  refine wpc_icmp (a := 10) (b := 8) rfl (by decide) rfl rfl (wpc_br (p := (7 : Int32) < ((2 : Int32) * a1)) ⟨fun hc383 => ?_, fun hc383 => ?_⟩)
  · have h384 := h.1 hc383
    refine wpc_sl (n := 1) (c' := 11) (pc' := 9) (ls' := [some (.ref 0), some (.int a1), some (.int a2)]) (st' := [.int (0 : Int32)]) (s' := s) rfl ?_
    exact wpc_ret rfl rfl (fun q => absurd q (by decide)) rfl ⟨(0 : Int32), rfl, h384⟩
  · have h385 := h.2 hc383
    refine wpc_sl (n := 4) (c' := 11) (pc' := 15) (ls' := [some (.ref 0), some (.int a1), some (.int a2)]) (st' := [.int (7 : Int32), .int ((2 : Int32) * a2)]) (s' := s) rfl ?_
    refine wpc_icmp (a := 20) (b := 18) rfl (by decide) rfl rfl (wpc_br (p := (7 : Int32) < ((2 : Int32) * a2)) ⟨fun hc386 => ?_, fun hc386 => ?_⟩)
    · have h387 := h385.1 hc386
      refine wpc_sl (n := 1) (c' := 11) (pc' := 19) (ls' := [some (.ref 0), some (.int a1), some (.int a2)]) (st' := [.int (1 : Int32)]) (s' := s) rfl ?_
      exact wpc_ret rfl rfl (fun q => absurd q (by decide)) rfl ⟨(1 : Int32), rfl, h387⟩
    · have h388 := h385.2 hc386
      refine wpc_sl (n := 1) (c' := 11) (pc' := 21) (ls' := [some (.ref 0), some (.int a1), some (.int a2)]) (st' := [.int (2 : Int32)]) (s' := s) rfl ?_
      exact wpc_ret rfl rfl (fun q => absurd q (by decide)) rfl ⟨(2 : Int32), rfl, h388⟩
theorem c47_in (a1 : Int32) (a2 : Int32) (a3 : Int32) (a4 : Int32) (s : St) (Q : St → Prop) (h : calI PP 44 11 [.ref 0, .int a3, .int a4] s (fun v377 s376 => calV PP 36 11 [.ref 0, .int a1, .int a2, .int (1 : Int32), .int v377] s376 (fun s379 => inb 7 a1 ∧ Q (sI s379 5 (ix a1) (1 : Int32))))) : calV PP 47 11 [.ref 0, .int a1, .int a2, .int a3, .int a4] s Q := by
  refine cal_of (me := cm47) (ls := [some (.ref 0), some (.int a1), some (.int a2), some (.int a3), some (.int a4), none]) rfl (Nat.le_of_ble_eq_true rfl) rfl ?_
  refine wpc_sl (n := 3) (c' := 11) (pc' := 4) (ls' := [some (.ref 0), some (.int a1), some (.int a2), some (.int a3), some (.int a4), none]) (st' := [.int a4, .int a3, .ref 0]) (s' := s) rfl ?_
  refine wpc_callI (m' := 44) (me' := cm44) (as := [.int a3, .int a4]) (r := []) rfl rfl rfl rfl rfl ⟨by decide, (by first | decide | exact Nat.le_of_ble_eq_true rfl), (by first | decide | exact Nat.le_of_ble_eq_true rfl), rfl⟩ (calI.mono h fun v377 s376 h378 => ?_)
  refine wpc_sl (n := 6) (c' := 11) (pc' := 15) (ls' := [some (.ref 0), some (.int a1), some (.int a2), some (.int a3), some (.int a4), some (.int v377)]) (st' := [.int v377, .int (1 : Int32), .int a2, .int a1, .ref 0]) (s' := s376) rfl ?_
  refine wpc_callV (m' := 36) (me' := cm36) (as := [.int a1, .int a2, .int (1 : Int32), .int v377]) (r := []) rfl rfl rfl rfl rfl ⟨by decide, (by first | decide | exact Nat.le_of_ble_eq_true rfl), (by first | decide | exact Nat.le_of_ble_eq_true rfl), rfl⟩ (calV.mono h378 fun s379 h381 => ?_)
  refine wpc_sl (n := 4) (c' := 11) (pc' := 24) (ls' := [some (.ref 0), some (.int a1), some (.int a2), some (.int a3), some (.int a4), some (.int v377)]) (st' := [.int (1 : Int32), .int a1, .ref 5]) (s' := s379) rfl ?_
  refine wpc_staI (a := 4) (N := 7) (s' := (sI s379 5 (ix a1) (1 : Int32))) rfl rfl (by decide) h381.1 rfl ?_
  have h382 := h381.2
  exact wpc_ret rfl rfl (fun q => absurd q (by decide)) rfl ⟨rfl, h382⟩
theorem c45_in (a1 : Int32) (a2 : Int32) (s : St) (Q : Int32 → St → Prop) (h : ((a1 < (1 : Int32)) → wpcI PP 45 cm45 11 12 [none, none, some (.int a2)] [] s Q) ∧ (¬ (a1 < (1 : Int32)) → ((a1 < a2) → wpcI PP 45 cm45 11 12 [none, none, some (.int a2)] [] s Q) ∧ (¬ (a1 < a2) → Q (0 : Int32) s))) : calI PP 45 11 [.ref 0, .int a1, .int a2] s Q := by
  refine cal_of (me := cm45) (ls := [some (.ref 0), some (.int a1), some (.int a2)]) rfl (Nat.le_of_ble_eq_true rfl) rfl ?_
  refine wpc_sl (n := 2) (c' := 11) (pc' := 2) (ls' := [some (.ref 0), some (.int a1), some (.int a2)]) (st' := [.int (1 : Int32), .int a1]) (s' := s) rfl ?_
  refine wpc_icmp (a := 12) (b := 5) rfl (by decide) rfl rfl (wpc_br (p := a1 < (1 : Int32)) ⟨fun hc408 => ?_, fun hc408 => ?_⟩)
  · have h409 := h.1 hc408
    exact wpc_lle (ls := [none, none, some (.int a2)]) ⟨rfl, trivial⟩ h409
  · have h410 := h.2 hc408
    refine wpc_sl (n := 2) (c' := 11) (pc' := 7) (ls' := [some (.ref 0), some (.int a1), some (.int a2)]) (st' := [.int a2, .int a1]) (s' := s) rfl ?_
    refine wpc_icmp (a := 12) (b := 10) rfl (by decide) rfl rfl (wpc_br (p := a1 < a2) ⟨fun hc411 => ?_, fun hc411 => ?_⟩)
    · have h412 := h410.1 hc411
      exact wpc_lle (ls := [none, none, some (.int a2)]) ⟨rfl, trivial⟩ h412
    · have h413 := h410.2 hc411
      refine wpc_sl (n := 1) (c' := 11) (pc' := 11) (ls' := [some (.ref 0), some (.int a1), some (.int a2)]) (st' := [.int (0 : Int32)]) (s' := s) rfl ?_
      exact wpc_ret rfl rfl (fun q => absurd q (by decide)) rfl ⟨(0 : Int32), rfl, h413⟩
theorem c45_12 (x2 : Int32) (s : St) (Q : Int32 → St → Prop) (h : ((x2 < (1 : Int32)) → Q (-1 : Int32) s) ∧ (¬ (x2 < (1 : Int32)) → Q (1 : Int32) s)) : wpcI PP 45 cm45 11 12 [none, none, some (.int x2)] [] s Q := by
  refine wpc_sl (n := 2) (c' := 11) (pc' := 14) (ls' := [none, none, some (.int x2)]) (st' := [.int (1 : Int32), .int x2]) (s' := s) rfl ?_
  refine wpc_icmp (a := 19) (b := 17) rfl (by decide) rfl rfl (wpc_br (p := x2 < (1 : Int32)) ⟨fun hc414 => ?_, fun hc414 => ?_⟩)
  · have h415 := h.1 hc414
    refine wpc_sl (n := 1) (c' := 11) (pc' := 20) (ls' := [none, none, some (.int x2)]) (st' := [.int (-1 : Int32)]) (s' := s) rfl ?_
    exact wpc_ret rfl rfl (fun q => absurd q (by decide)) rfl ⟨(-1 : Int32), rfl, h415⟩
  · have h416 := h.2 hc414
    refine wpc_sl (n := 1) (c' := 11) (pc' := 18) (ls' := [none, none, some (.int x2)]) (st' := [.int (1 : Int32)]) (s' := s) rfl ?_
    exact wpc_ret rfl rfl (fun q => absurd q (by decide)) rfl ⟨(1 : Int32), rfl, h416⟩
theorem c50_in (a1 : Int32) (s : St) (Q : St → Prop) (h : inb 7 a1 ∧ inb 7 a1 ∧ inb 7 a1 ∧ inb 7 a1 ∧ inb 7 a1 ∧ Q (sI (sI (sL s 8 (ix a1) (((gL s 8 (ix a1)) * (6364136223846793005 : Int64)) + (1442695040888963407 : Int64))) 3 (ix a1) (Int64.toInt32 (XT.ushrL (((gL s 8 (ix a1)) * (6364136223846793005 : Int64)) + (1442695040888963407 : Int64)) (63 : Int32)))) 9 (ix a1) ((gI s 9 (ix a1)) + (1 : Int32)))) : calV PP 50 11 [.ref 0, .int a1] s Q := by
  refine cal_of (me := cm50) (ls := [some (.ref 0), some (.int a1), none, none]) rfl (Nat.le_of_ble_eq_true rfl) rfl ?_
  refine wpc_sl (n := 3) (c' := 11) (pc' := 5) (ls' := [some (.ref 0), some (.int a1), none, none]) (st' := [.int a1, .ref 8]) (s' := s) rfl ?_
  refine wpc_ldaJ (a := 7) (N := 7) (v := (gL s 8 (ix a1))) rfl rfl (by decide) h.1 rfl ?_
  have h417 := h.2
  refine wpc_sl (n := 9) (c' := 11) (pc' := 21) (ls' := [some (.ref 0), some (.int a1), some (.long (((gL s 8 (ix a1)) * (6364136223846793005 : Int64)) + (1442695040888963407 : Int64))), none]) (st' := [.long (((gL s 8 (ix a1)) * (6364136223846793005 : Int64)) + (1442695040888963407 : Int64)), .int a1, .ref 8]) (s' := s) rfl ?_
  refine wpc_staJ (a := 7) (N := 7) (s' := (sL s 8 (ix a1) (((gL s 8 (ix a1)) * (6364136223846793005 : Int64)) + (1442695040888963407 : Int64)))) rfl rfl (by decide) h417.1 rfl ?_
  have h418 := h417.2
  refine wpc_sl (n := 7) (c' := 11) (pc' := 32) (ls' := [some (.ref 0), some (.int a1), some (.long (((gL s 8 (ix a1)) * (6364136223846793005 : Int64)) + (1442695040888963407 : Int64))), none]) (st' := [.int (Int64.toInt32 (XT.ushrL (((gL s 8 (ix a1)) * (6364136223846793005 : Int64)) + (1442695040888963407 : Int64)) (63 : Int32))), .int a1, .ref 3]) (s' := (sL s 8 (ix a1) (((gL s 8 (ix a1)) * (6364136223846793005 : Int64)) + (1442695040888963407 : Int64)))) rfl ?_
  refine wpc_staI (a := 2) (N := 7) (s' := (sI (sL s 8 (ix a1) (((gL s 8 (ix a1)) * (6364136223846793005 : Int64)) + (1442695040888963407 : Int64))) 3 (ix a1) (Int64.toInt32 (XT.ushrL (((gL s 8 (ix a1)) * (6364136223846793005 : Int64)) + (1442695040888963407 : Int64)) (63 : Int32))))) rfl rfl (by decide) h418.1 rfl ?_
  have h419 := h418.2
  refine wpc_sl (n := 6) (c' := 11) (pc' := 43) (ls' := [some (.ref 0), some (.int a1), some (.long (((gL s 8 (ix a1)) * (6364136223846793005 : Int64)) + (1442695040888963407 : Int64))), none]) (st' := [.int a1, .ref 9, .int a1, .ref 9]) (s' := (sI (sL s 8 (ix a1) (((gL s 8 (ix a1)) * (6364136223846793005 : Int64)) + (1442695040888963407 : Int64))) 3 (ix a1) (Int64.toInt32 (XT.ushrL (((gL s 8 (ix a1)) * (6364136223846793005 : Int64)) + (1442695040888963407 : Int64)) (63 : Int32))))) rfl ?_
  refine wpc_ldaI (a := 8) (N := 7) (v := (gI s 9 (ix a1))) rfl rfl (by decide) h419.1 rfl ?_
  have h420 := h419.2
  refine wpc_sl (n := 2) (c' := 11) (pc' := 46) (ls' := [some (.ref 0), some (.int a1), some (.long (((gL s 8 (ix a1)) * (6364136223846793005 : Int64)) + (1442695040888963407 : Int64))), none]) (st' := [.int ((gI s 9 (ix a1)) + (1 : Int32)), .int a1, .ref 9]) (s' := (sI (sL s 8 (ix a1) (((gL s 8 (ix a1)) * (6364136223846793005 : Int64)) + (1442695040888963407 : Int64))) 3 (ix a1) (Int64.toInt32 (XT.ushrL (((gL s 8 (ix a1)) * (6364136223846793005 : Int64)) + (1442695040888963407 : Int64)) (63 : Int32))))) rfl ?_
  refine wpc_staI (a := 8) (N := 7) (s' := (sI (sI (sL s 8 (ix a1) (((gL s 8 (ix a1)) * (6364136223846793005 : Int64)) + (1442695040888963407 : Int64))) 3 (ix a1) (Int64.toInt32 (XT.ushrL (((gL s 8 (ix a1)) * (6364136223846793005 : Int64)) + (1442695040888963407 : Int64)) (63 : Int32)))) 9 (ix a1) ((gI s 9 (ix a1)) + (1 : Int32)))) rfl rfl (by decide) h420.1 rfl ?_
  have h421 := h420.2
  exact wpc_ret rfl rfl (fun q => absurd q (by decide)) rfl ⟨rfl, h421⟩
theorem c46_in (a1 : Int32) (a2 : Int32) (a3 : Int32) (s : St) (Q : Int32 → St → Prop) (h : ((a1 = (0 : Int32)) → Q a2 s) ∧ (¬ (a1 = (0 : Int32)) → Q a3 s)) : calI PP 46 11 [.ref 0, .int a1, .int a2, .int a3] s Q := by
  refine cal_of (me := cm46) (ls := [some (.ref 0), some (.int a1), some (.int a2), some (.int a3)]) rfl (Nat.le_of_ble_eq_true rfl) rfl ?_
  refine wpc_sl (n := 1) (c' := 11) (pc' := 1) (ls' := [some (.ref 0), some (.int a1), some (.int a2), some (.int a3)]) (st' := [.int a1]) (s' := s) rfl ?_
  refine wpc_if (a := 6) (b := 4) rfl (by decide) rfl rfl (wpc_br (p := a1 = (0 : Int32)) ⟨fun hc422 => ?_, fun hc422 => ?_⟩)
  · have h423 := h.1 hc422
    refine wpc_sl (n := 1) (c' := 11) (pc' := 5) (ls' := [some (.ref 0), some (.int a1), some (.int a2), some (.int a3)]) (st' := [.int a2]) (s' := s) rfl ?_
    exact wpc_ret rfl rfl (fun q => absurd q (by decide)) rfl ⟨a2, rfl, h423⟩
  · have h424 := h.2 hc422
    refine wpc_sl (n := 1) (c' := 11) (pc' := 7) (ls' := [some (.ref 0), some (.int a1), some (.int a2), some (.int a3)]) (st' := [.int a3]) (s' := s) rfl ?_
    exact wpc_ret rfl rfl (fun q => absurd q (by decide)) rfl ⟨a3, rfl, h424⟩
theorem c49_in (a1 : Int32) (a2 : Int32) (a3 : Int32) (a4 : Int32) (s : St) (Q : St → Prop) (h : inb 7 a1 ∧ (((gI s 6 (ix a1)) = (-1 : Int32)) → ((a4 < ((gI s 0 19) + (1 : Int32))) → wpcV PP 49 cm49 11 35 [some (.ref 0), some (.int a1), none, some (.int a3), none] [] s Q) ∧ (¬ (a4 < ((gI s 0 19) + (1 : Int32))) → inb 7 a1 ∧ inb 7 a1 ∧ wpcV PP 49 cm49 11 35 [some (.ref 0), some (.int a1), none, some (.int a3), none] [] (sI (sI s 6 (ix a1) a3) 7 (ix a1) a2) Q)) ∧ (¬ ((gI s 6 (ix a1)) = (-1 : Int32)) → wpcV PP 49 cm49 11 35 [some (.ref 0), some (.int a1), none, some (.int a3), none] [] s Q)) : calV PP 49 11 [.ref 0, .int a1, .int a2, .int a3, .int a4] s Q := by
  refine cal_of (me := cm49) (ls := [some (.ref 0), some (.int a1), some (.int a2), some (.int a3), some (.int a4)]) rfl (Nat.le_of_ble_eq_true rfl) rfl ?_
  refine wpc_sl (n := 3) (c' := 11) (pc' := 5) (ls' := [some (.ref 0), some (.int a1), some (.int a2), some (.int a3), some (.int a4)]) (st' := [.int a1, .ref 6]) (s' := s) rfl ?_
  refine wpc_ldaI (a := 5) (N := 7) (v := (gI s 6 (ix a1))) rfl rfl (by decide) h.1 rfl ?_
  have h425 := h.2
  refine wpc_sl (n := 1) (c' := 11) (pc' := 7) (ls' := [some (.ref 0), some (.int a1), some (.int a2), some (.int a3), some (.int a4)]) (st' := [.int (-1 : Int32), .int (gI s 6 (ix a1))]) (s' := s) rfl ?_
  refine wpc_icmp (a := 35) (b := 10) rfl (by decide) rfl rfl (wpc_br (p := (gI s 6 (ix a1)) = (-1 : Int32)) ⟨fun hc426 => ?_, fun hc426 => ?_⟩)
  · have h427 := h425.1 hc426
    refine wpc_sl (n := 5) (c' := 11) (pc' := 18) (ls' := [some (.ref 0), some (.int a1), some (.int a2), some (.int a3), some (.int a4)]) (st' := [.int ((gI s 0 19) + (1 : Int32)), .int a4]) (s' := s) rfl ?_
    refine wpc_icmp (a := 35) (b := 21) rfl (by decide) rfl rfl (wpc_br (p := a4 < ((gI s 0 19) + (1 : Int32))) ⟨fun hc429 => ?_, fun hc429 => ?_⟩)
    · have h430 := h427.1 hc429
      exact wpc_lle (ls := [some (.ref 0), some (.int a1), none, some (.int a3), none]) ⟨rfl, rfl, rfl, trivial⟩ h430
    · have h431 := h427.2 hc429
      refine wpc_sl (n := 4) (c' := 11) (pc' := 27) (ls' := [some (.ref 0), some (.int a1), some (.int a2), some (.int a3), some (.int a4)]) (st' := [.int a3, .int a1, .ref 6]) (s' := s) rfl ?_
      refine wpc_staI (a := 5) (N := 7) (s' := (sI s 6 (ix a1) a3)) rfl rfl (by decide) h431.1 rfl ?_
      have h432 := h431.2
      refine wpc_sl (n := 4) (c' := 11) (pc' := 34) (ls' := [some (.ref 0), some (.int a1), some (.int a2), some (.int a3), some (.int a4)]) (st' := [.int a2, .int a1, .ref 7]) (s' := (sI s 6 (ix a1) a3)) rfl ?_
      refine wpc_staI (a := 6) (N := 7) (s' := (sI (sI s 6 (ix a1) a3) 7 (ix a1) a2)) rfl rfl (by decide) h432.1 rfl ?_
      have h433 := h432.2
      exact wpc_lle (ls := [some (.ref 0), some (.int a1), none, some (.int a3), none]) ⟨rfl, rfl, rfl, trivial⟩ h433
  · have h428 := h425.2 hc426
    exact wpc_lle (ls := [some (.ref 0), some (.int a1), none, some (.int a3), none]) ⟨rfl, rfl, rfl, trivial⟩ h428
theorem c49_35 (x1 : Int32) (x3 : Int32) (s : St) (Q : St → Prop) (h : inb 7 x1 ∧ Q (sI s 3 (ix x1) x3)) : wpcV PP 49 cm49 11 35 [some (.ref 0), some (.int x1), none, some (.int x3), none] [] s Q := by
  refine wpc_sl (n := 4) (c' := 11) (pc' := 41) (ls' := [some (.ref 0), some (.int x1), none, some (.int x3), none]) (st' := [.int x3, .int x1, .ref 3]) (s' := s) rfl ?_
  refine wpc_staI (a := 2) (N := 7) (s' := (sI s 3 (ix x1) x3)) rfl rfl (by decide) h.1 rfl ?_
  have h434 := h.2
  exact wpc_ret rfl rfl (fun q => absurd q (by decide)) rfl ⟨rfl, h434⟩
theorem c48_in (a1 : Int32) (a2 : Int32) (a3 : Int32) (a4 : Int32) (s : St) (Q : Int32 → St → Prop) (h : calI PP 45 11 [.ref 0, .int a3, .int a4] s (fun v390 s389 => ((v390 = (-1 : Int32)) → calV PP 50 11 [.ref 0, .int a1] s389 (fun s395 => wpcI PP 48 cm48 11 44 [some (.ref 0), some (.int a1), some (.int a2), none, none, none, none] [] s395 Q)) ∧ (¬ (v390 = (-1 : Int32)) → calI PP 46 11 [.ref 0, .int v390, .int a3, .int a4] s389 (fun v399 s398 => calV PP 49 11 [.ref 0, .int a1, .int a2, .int v390, .int v399] s398 (fun s401 => wpcI PP 48 cm48 11 44 [some (.ref 0), some (.int a1), some (.int a2), none, none, none, none] [] s401 Q))))) : calI PP 48 11 [.ref 0, .int a1, .int a2, .int a3, .int a4] s Q := by
  refine cal_of (me := cm48) (ls := [some (.ref 0), some (.int a1), some (.int a2), some (.int a3), some (.int a4), none, none]) rfl (Nat.le_of_ble_eq_true rfl) rfl ?_
  refine wpc_sl (n := 3) (c' := 11) (pc' := 4) (ls' := [some (.ref 0), some (.int a1), some (.int a2), some (.int a3), some (.int a4), none, none]) (st' := [.int a4, .int a3, .ref 0]) (s' := s) rfl ?_
  refine wpc_callI (m' := 45) (me' := cm45) (as := [.int a3, .int a4]) (r := []) rfl rfl rfl rfl rfl ⟨by decide, (by first | decide | exact Nat.le_of_ble_eq_true rfl), (by first | decide | exact Nat.le_of_ble_eq_true rfl), rfl⟩ (calI.mono h fun v390 s389 h391 => ?_)
  refine wpc_sl (n := 3) (c' := 11) (pc' := 12) (ls' := [some (.ref 0), some (.int a1), some (.int a2), some (.int a3), some (.int a4), some (.int v390), none]) (st' := [.int (-1 : Int32), .int v390]) (s' := s389) rfl ?_
  refine wpc_icmp (a := 23) (b := 15) rfl (by decide) rfl rfl (wpc_br (p := v390 = (-1 : Int32)) ⟨fun hc392 => ?_, fun hc392 => ?_⟩)
  · have h393 := h391.1 hc392
    refine wpc_sl (n := 2) (c' := 11) (pc' := 17) (ls' := [some (.ref 0), some (.int a1), some (.int a2), some (.int a3), some (.int a4), some (.int v390), none]) (st' := [.int a1, .ref 0]) (s' := s389) rfl ?_
    refine wpc_callV (m' := 50) (me' := cm50) (as := [.int a1]) (r := []) rfl rfl rfl rfl rfl ⟨by decide, (by first | decide | exact Nat.le_of_ble_eq_true rfl), (by first | decide | exact Nat.le_of_ble_eq_true rfl), rfl⟩ (calV.mono h393 fun s395 h397 => ?_)
    refine wpc_sl (n := 1) (c' := 11) (pc' := 44) (ls' := [some (.ref 0), some (.int a1), some (.int a2), some (.int a3), some (.int a4), some (.int v390), none]) (st' := []) (s' := s395) rfl ?_
    exact wpc_lle (ls := [some (.ref 0), some (.int a1), some (.int a2), none, none, none, none]) ⟨rfl, rfl, rfl, trivial⟩ h397
  · have h394 := h391.2 hc392
    refine wpc_sl (n := 4) (c' := 11) (pc' := 29) (ls' := [some (.ref 0), some (.int a1), some (.int a2), some (.int a3), some (.int a4), some (.int v390), none]) (st' := [.int a4, .int a3, .int v390, .ref 0]) (s' := s389) rfl ?_
    refine wpc_callI (m' := 46) (me' := cm46) (as := [.int v390, .int a3, .int a4]) (r := []) rfl rfl rfl rfl rfl ⟨by decide, (by first | decide | exact Nat.le_of_ble_eq_true rfl), (by first | decide | exact Nat.le_of_ble_eq_true rfl), rfl⟩ (calI.mono h394 fun v399 s398 h400 => ?_)
    refine wpc_sl (n := 6) (c' := 11) (pc' := 41) (ls' := [some (.ref 0), some (.int a1), some (.int a2), some (.int a3), some (.int a4), some (.int v390), some (.int v399)]) (st' := [.int v399, .int v390, .int a2, .int a1, .ref 0]) (s' := s398) rfl ?_
    refine wpc_callV (m' := 49) (me' := cm49) (as := [.int a1, .int a2, .int v390, .int v399]) (r := []) rfl rfl rfl rfl rfl ⟨by decide, (by first | decide | exact Nat.le_of_ble_eq_true rfl), (by first | decide | exact Nat.le_of_ble_eq_true rfl), rfl⟩ (calV.mono h400 fun s401 h403 => ?_)
    exact wpc_lle (ls := [some (.ref 0), some (.int a1), some (.int a2), none, none, none, none]) ⟨rfl, rfl, rfl, trivial⟩ h403
theorem c48_44 (x1 : Int32) (x2 : Int32) (s : St) (Q : Int32 → St → Prop) (h : ((x2 = (gI s 0 20)) → inb 7 x1 ∧ Q (0 : Int32) (sI s 1 (ix x1) (2 : Int32))) ∧ (¬ (x2 = (gI s 0 20)) → False)) : wpcI PP 48 cm48 11 44 [some (.ref 0), some (.int x1), some (.int x2), none, none, none, none] [] s Q := by
  refine wpc_sl (n := 3) (c' := 11) (pc' := 49) (ls' := [some (.ref 0), some (.int x1), some (.int x2), none, none, none, none]) (st' := [.int (gI s 0 20), .int x2]) (s' := s) rfl ?_
  refine wpc_icmp (a := 61) (b := 52) rfl (by decide) rfl rfl (wpc_br (p := x2 = (gI s 0 20)) ⟨fun hc404 => ?_, fun hc404 => ?_⟩)
  · have h405 := h.1 hc404
    refine wpc_sl (n := 4) (c' := 11) (pc' := 58) (ls' := [some (.ref 0), some (.int x1), some (.int x2), none, none, none, none]) (st' := [.int (2 : Int32), .int x1, .ref 1]) (s' := s) rfl ?_
    refine wpc_staI (a := 0) (N := 7) (s' := (sI s 1 (ix x1) (2 : Int32))) rfl rfl (by decide) h405.1 rfl ?_
    have h407 := h405.2
    refine wpc_sl (n := 1) (c' := 11) (pc' := 60) (ls' := [some (.ref 0), some (.int x1), some (.int x2), none, none, none, none]) (st' := [.int (0 : Int32)]) (s' := (sI s 1 (ix x1) (2 : Int32))) rfl ?_
    exact wpc_ret rfl rfl (fun q => absurd q (by decide)) rfl ⟨(0 : Int32), rfl, h407⟩
  · have h406 := h.2 hc404
    refine wpc_sl (n := 5) (c' := 11) (pc' := 66) (ls' := [some (.ref 0), some (.int x1), some (.int x2), none, none, none, none]) (st' := [.int (x2 + (1 : Int32)), .int x1, .ref 0]) (s' := s) rfl ?_
    exact h406.elim
theorem c43_in (a1 : Int32) (s : St) (Q : Int32 → St → Prop) (h : inb 7 a1 ∧ (((gI s 1 (ix a1)) = (1 : Int32)) → inb 7 a1 ∧ inb 7 a1 ∧ calI PP 22 11 [.ref 0, .int (gI s 4 (ix a1))] s (fun v298 s297 => ((v298 = (0 : Int32)) → Q (0 : Int32) s297) ∧ (¬ (v298 = (0 : Int32)) → calI PP 23 11 [.ref 0, .int (gI s 5 (ix a1))] s297 (fun v304 s303 => ((v304 = (0 : Int32)) → Q (0 : Int32) s303) ∧ (¬ (v304 = (0 : Int32)) → calI PP 40 11 [.ref 0, .int a1, .int (gI s 4 (ix a1)), .int (gI s 5 (ix a1))] s303 (fun v310 s309 => ((v310 < (gI s309 0 21)) → Q (0 : Int32) s309) ∧ (¬ (v310 < (gI s309 0 21)) → calI PP 41 11 [.ref 0, .int a1, .int (gI s 4 (ix a1)), .int (gI s 5 (ix a1)), .int (0 : Int32)] s309 (fun v316 s315 => calI PP 41 11 [.ref 0, .int a1, .int (gI s 4 (ix a1)), .int (gI s 5 (ix a1)), .int (1 : Int32)] s315 (fun v319 s318 => (((gI s 5 (ix a1)) = (0 : Int32)) → calV PP 47 11 [.ref 0, .int a1, .int (gI s 4 (ix a1)), .int v316, .int v319] s318 (fun s324 => Q (1 : Int32) s324)) ∧ (¬ ((gI s 5 (ix a1)) = (0 : Int32)) → calI PP 48 11 [.ref 0, .int a1, .int (gI s 4 (ix a1)), .int v316, .int v319] s318 (fun v328 s327 => Q (v328 &&& 1) s327))))))))))) ∧ (¬ ((gI s 1 (ix a1)) = (1 : Int32)) → Q (0 : Int32) s)) : calI PP 43 11 [.ref 0, .int a1] s Q := by
  refine cal_of (me := cm43) (ls := [some (.ref 0), some (.int a1), none, none, none, none]) rfl (Nat.le_of_ble_eq_true rfl) rfl ?_
  refine wpc_sl (n := 3) (c' := 11) (pc' := 5) (ls' := [some (.ref 0), some (.int a1), none, none, none, none]) (st' := [.int a1, .ref 1]) (s' := s) rfl ?_
  refine wpc_ldaI (a := 0) (N := 7) (v := (gI s 1 (ix a1))) rfl rfl (by decide) h.1 rfl ?_
  have h291 := h.2
  refine wpc_sl (n := 1) (c' := 11) (pc' := 7) (ls' := [some (.ref 0), some (.int a1), none, none, none, none]) (st' := [.int (1 : Int32), .int (gI s 1 (ix a1))]) (s' := s) rfl ?_
  refine wpc_icmp (a := 12) (b := 10) rfl (by decide) rfl rfl (wpc_br (p := (gI s 1 (ix a1)) = (1 : Int32)) ⟨fun hc292 => ?_, fun hc292 => ?_⟩)
  · have h293 := h291.1 hc292
    refine wpc_sl (n := 3) (c' := 11) (pc' := 17) (ls' := [some (.ref 0), some (.int a1), none, none, none, none]) (st' := [.int a1, .ref 4]) (s' := s) rfl ?_
    refine wpc_ldaI (a := 3) (N := 7) (v := (gI s 4 (ix a1))) rfl rfl (by decide) h293.1 rfl ?_
    have h295 := h293.2
    refine wpc_sl (n := 4) (c' := 11) (pc' := 24) (ls' := [some (.ref 0), some (.int a1), some (.int (gI s 4 (ix a1))), none, none, none]) (st' := [.int a1, .ref 5]) (s' := s) rfl ?_
    refine wpc_ldaI (a := 4) (N := 7) (v := (gI s 5 (ix a1))) rfl rfl (by decide) h295.1 rfl ?_
    have h296 := h295.2
    refine wpc_sl (n := 3) (c' := 11) (pc' := 28) (ls' := [some (.ref 0), some (.int a1), some (.int (gI s 4 (ix a1))), some (.int (gI s 5 (ix a1))), none, none]) (st' := [.int (gI s 4 (ix a1)), .ref 0]) (s' := s) rfl ?_
    refine wpc_callI (m' := 22) (me' := cm22) (as := [.int (gI s 4 (ix a1))]) (r := []) rfl rfl rfl rfl rfl ⟨by decide, (by first | decide | exact Nat.le_of_ble_eq_true rfl), (by first | decide | exact Nat.le_of_ble_eq_true rfl), rfl⟩ (calI.mono h296 fun v298 s297 h299 => ?_)
    refine wpc_if (a := 42) (b := 34) rfl (by decide) rfl rfl (wpc_br (p := v298 = (0 : Int32)) ⟨fun hc300 => ?_, fun hc300 => ?_⟩)
    · have h301 := h299.1 hc300
      refine wpc_sl (n := 1) (c' := 11) (pc' := 43) (ls' := [some (.ref 0), some (.int a1), some (.int (gI s 4 (ix a1))), some (.int (gI s 5 (ix a1))), none, none]) (st' := [.int (0 : Int32)]) (s' := s297) rfl ?_
      exact wpc_ret rfl rfl (fun q => absurd q (by decide)) rfl ⟨(0 : Int32), rfl, h301⟩
    · have h302 := h299.2 hc300
      refine wpc_sl (n := 2) (c' := 11) (pc' := 36) (ls' := [some (.ref 0), some (.int a1), some (.int (gI s 4 (ix a1))), some (.int (gI s 5 (ix a1))), none, none]) (st' := [.int (gI s 5 (ix a1)), .ref 0]) (s' := s297) rfl ?_
      refine wpc_callI (m' := 23) (me' := cm23) (as := [.int (gI s 5 (ix a1))]) (r := []) rfl rfl rfl rfl rfl ⟨by decide, (by first | decide | exact Nat.le_of_ble_eq_true rfl), (by first | decide | exact Nat.le_of_ble_eq_true rfl), rfl⟩ (calI.mono h302 fun v304 s303 h305 => ?_)
      refine wpc_if (a := 44) (b := 42) rfl (by decide) rfl rfl (wpc_br (p := v304 = (0 : Int32)) ⟨fun hc306 => ?_, fun hc306 => ?_⟩)
      · have h307 := h305.1 hc306
        refine wpc_sl (n := 1) (c' := 11) (pc' := 43) (ls' := [some (.ref 0), some (.int a1), some (.int (gI s 4 (ix a1))), some (.int (gI s 5 (ix a1))), none, none]) (st' := [.int (0 : Int32)]) (s' := s303) rfl ?_
        exact wpc_ret rfl rfl (fun q => absurd q (by decide)) rfl ⟨(0 : Int32), rfl, h307⟩
      · have h308 := h305.2 hc306
        refine wpc_sl (n := 4) (c' := 11) (pc' := 48) (ls' := [some (.ref 0), some (.int a1), some (.int (gI s 4 (ix a1))), some (.int (gI s 5 (ix a1))), none, none]) (st' := [.int (gI s 5 (ix a1)), .int (gI s 4 (ix a1)), .int a1, .ref 0]) (s' := s303) rfl ?_
        refine wpc_callI (m' := 40) (me' := cm40) (as := [.int a1, .int (gI s 4 (ix a1)), .int (gI s 5 (ix a1))]) (r := []) rfl rfl rfl rfl rfl ⟨by decide, (by first | decide | exact Nat.le_of_ble_eq_true rfl), (by first | decide | exact Nat.le_of_ble_eq_true rfl), rfl⟩ (calI.mono h308 fun v310 s309 h311 => ?_)
        refine wpc_sl (n := 2) (c' := 11) (pc' := 55) (ls' := [some (.ref 0), some (.int a1), some (.int (gI s 4 (ix a1))), some (.int (gI s 5 (ix a1))), none, none]) (st' := [.int (gI s309 0 21), .int v310]) (s' := s309) rfl ?_
        refine wpc_icmp (a := 60) (b := 58) rfl (by decide) rfl rfl (wpc_br (p := v310 < (gI s309 0 21)) ⟨fun hc312 => ?_, fun hc312 => ?_⟩)
        · have h313 := h311.1 hc312
          refine wpc_sl (n := 1) (c' := 11) (pc' := 59) (ls' := [some (.ref 0), some (.int a1), some (.int (gI s 4 (ix a1))), some (.int (gI s 5 (ix a1))), none, none]) (st' := [.int (0 : Int32)]) (s' := s309) rfl ?_
          exact wpc_ret rfl rfl (fun q => absurd q (by decide)) rfl ⟨(0 : Int32), rfl, h313⟩
        · have h314 := h311.2 hc312
          refine wpc_sl (n := 5) (c' := 11) (pc' := 65) (ls' := [some (.ref 0), some (.int a1), some (.int (gI s 4 (ix a1))), some (.int (gI s 5 (ix a1))), none, none]) (st' := [.int (0 : Int32), .int (gI s 5 (ix a1)), .int (gI s 4 (ix a1)), .int a1, .ref 0]) (s' := s309) rfl ?_
          refine wpc_callI (m' := 41) (me' := cm41) (as := [.int a1, .int (gI s 4 (ix a1)), .int (gI s 5 (ix a1)), .int (0 : Int32)]) (r := []) rfl rfl rfl rfl rfl ⟨by decide, (by first | decide | exact Nat.le_of_ble_eq_true rfl), (by first | decide | exact Nat.le_of_ble_eq_true rfl), rfl⟩ (calI.mono h314 fun v316 s315 h317 => ?_)
          refine wpc_sl (n := 6) (c' := 11) (pc' := 75) (ls' := [some (.ref 0), some (.int a1), some (.int (gI s 4 (ix a1))), some (.int (gI s 5 (ix a1))), some (.int v316), none]) (st' := [.int (1 : Int32), .int (gI s 5 (ix a1)), .int (gI s 4 (ix a1)), .int a1, .ref 0]) (s' := s315) rfl ?_
          refine wpc_callI (m' := 41) (me' := cm41) (as := [.int a1, .int (gI s 4 (ix a1)), .int (gI s 5 (ix a1)), .int (1 : Int32)]) (r := []) rfl rfl rfl rfl rfl ⟨by decide, (by first | decide | exact Nat.le_of_ble_eq_true rfl), (by first | decide | exact Nat.le_of_ble_eq_true rfl), rfl⟩ (calI.mono h317 fun v319 s318 h320 => ?_)
          refine wpc_sl (n := 2) (c' := 11) (pc' := 81) (ls' := [some (.ref 0), some (.int a1), some (.int (gI s 4 (ix a1))), some (.int (gI s 5 (ix a1))), some (.int v316), some (.int v319)]) (st' := [.int (gI s 5 (ix a1))]) (s' := s318) rfl ?_
          refine wpc_if (a := 96) (b := 84) rfl (by decide) rfl rfl (wpc_br (p := (gI s 5 (ix a1)) = (0 : Int32)) ⟨fun hc321 => ?_, fun hc321 => ?_⟩)
          · have h322 := h320.1 hc321
            refine wpc_sl (n := 5) (c' := 11) (pc' := 91) (ls' := [some (.ref 0), some (.int a1), some (.int (gI s 4 (ix a1))), some (.int (gI s 5 (ix a1))), some (.int v316), some (.int v319)]) (st' := [.int v319, .int v316, .int (gI s 4 (ix a1)), .int a1, .ref 0]) (s' := s318) rfl ?_
            refine wpc_callV (m' := 47) (me' := cm47) (as := [.int a1, .int (gI s 4 (ix a1)), .int v316, .int v319]) (r := []) rfl rfl rfl rfl rfl ⟨by decide, (by first | decide | exact Nat.le_of_ble_eq_true rfl), (by first | decide | exact Nat.le_of_ble_eq_true rfl), rfl⟩ (calV.mono h322 fun s324 h326 => ?_)
            refine wpc_sl (n := 1) (c' := 11) (pc' := 95) (ls' := [some (.ref 0), some (.int a1), some (.int (gI s 4 (ix a1))), some (.int (gI s 5 (ix a1))), some (.int v316), some (.int v319)]) (st' := [.int (1 : Int32)]) (s' := s324) rfl ?_
            exact wpc_ret rfl rfl (fun q => absurd q (by decide)) rfl ⟨(1 : Int32), rfl, h326⟩
          · have h323 := h320.2 hc321
            refine wpc_sl (n := 5) (c' := 11) (pc' := 103) (ls' := [some (.ref 0), some (.int a1), some (.int (gI s 4 (ix a1))), some (.int (gI s 5 (ix a1))), some (.int v316), some (.int v319)]) (st' := [.int v319, .int v316, .int (gI s 4 (ix a1)), .int a1, .ref 0]) (s' := s318) rfl ?_
            refine wpc_callI (m' := 48) (me' := cm48) (as := [.int a1, .int (gI s 4 (ix a1)), .int v316, .int v319]) (r := []) rfl rfl rfl rfl rfl ⟨by decide, (by first | decide | exact Nat.le_of_ble_eq_true rfl), (by first | decide | exact Nat.le_of_ble_eq_true rfl), rfl⟩ (calI.mono h323 fun v328 s327 h329 => ?_)
            exact wpc_ret rfl rfl (fun q => absurd q (by decide)) rfl ⟨(v328 &&& 1), rfl, h329⟩
  · have h294 := h291.2 hc292
    refine wpc_sl (n := 1) (c' := 11) (pc' := 11) (ls' := [some (.ref 0), some (.int a1), none, none, none, none]) (st' := [.int (0 : Int32)]) (s' := s) rfl ?_
    exact wpc_ret rfl rfl (fun q => absurd q (by decide)) rfl ⟨(0 : Int32), rfl, h294⟩
theorem c42_in (a1 : Int32) (s : St) (Q : St → Prop) (h : calI PP 21 11 [.ref 0, .int a1] s (fun v277 s276 => ((v277 = (0 : Int32)) → Q s276) ∧ (¬ (v277 = (0 : Int32)) → wpcV PP 42 cm42 11 20 [some (.ref 0), some (.int a1), some (.int (((2 : Int32) * (gI s276 0 20)) + (2 : Int32))), some (.int (0 : Int32))] [] s276 Q))) : calV PP 42 11 [.ref 0, .int a1] s Q := by
  refine cal_of (me := cm42) (ls := [some (.ref 0), some (.int a1), none, none]) rfl (Nat.le_of_ble_eq_true rfl) rfl ?_
  refine wpc_sl (n := 2) (c' := 11) (pc' := 2) (ls' := [some (.ref 0), some (.int a1), none, none]) (st' := [.int a1, .ref 0]) (s' := s) rfl ?_
  refine wpc_callI (m' := 21) (me' := cm21) (as := [.int a1]) (r := []) rfl rfl rfl rfl rfl ⟨by decide, (by first | decide | exact Nat.le_of_ble_eq_true rfl), (by first | decide | exact Nat.le_of_ble_eq_true rfl), rfl⟩ (calI.mono h fun v277 s276 h278 => ?_)
  refine wpc_if (a := 9) (b := 8) rfl (by decide) rfl rfl (wpc_br (p := v277 = (0 : Int32)) ⟨fun hc279 => ?_, fun hc279 => ?_⟩)
  · have h280 := h278.1 hc279
    exact wpc_ret rfl rfl (fun q => absurd q (by decide)) rfl ⟨rfl, h280⟩
  · have h281 := h278.2 hc279
    refine wpc_sl (n := 9) (c' := 11) (pc' := 20) (ls' := [some (.ref 0), some (.int a1), some (.int (((2 : Int32) * (gI s276 0 20)) + (2 : Int32))), some (.int (0 : Int32))]) (st' := []) (s' := s276) rfl ?_
    exact h281
theorem c42_20 (x1 : Int32) (x2 : Int32) (x3 : Int32) (s : St) (Q : St → Prop) (h : ((x3 < x2) → calI PP 43 11 [.ref 0, .int x1] s (fun v286 s285 => ((v286 = (0 : Int32)) → Q s285) ∧ (¬ (v286 = (0 : Int32)) → wpcV PP 42 cm42 11 20 [some (.ref 0), some (.int x1), some (.int x2), some (.int (x3 + (1 : Int32)))] [] s285 Q))) ∧ (¬ (x3 < x2) → Q s)) : wpcV PP 42 cm42 11 20 [some (.ref 0), some (.int x1), some (.int x2), some (.int x3)] [] s Q := by
  refine wpc_sl (n := 2) (c' := 11) (pc' := 22) (ls' := [some (.ref 0), some (.int x1), some (.int x2), some (.int x3)]) (st' := [.int x2, .int x3]) (s' := s) rfl ?_
  refine wpc_icmp (a := 40) (b := 25) rfl (by decide) rfl rfl (wpc_br (p := x3 < x2) ⟨fun hc282 => ?_, fun hc282 => ?_⟩)
  · have h283 := h.1 hc282
    refine wpc_sl (n := 2) (c' := 11) (pc' := 27) (ls' := [some (.ref 0), some (.int x1), some (.int x2), some (.int x3)]) (st' := [.int x1, .ref 0]) (s' := s) rfl ?_
    refine wpc_callI (m' := 43) (me' := cm43) (as := [.int x1]) (r := []) rfl rfl rfl rfl rfl ⟨by decide, (by first | decide | exact Nat.le_of_ble_eq_true rfl), (by first | decide | exact Nat.le_of_ble_eq_true rfl), rfl⟩ (calI.mono h283 fun v286 s285 h287 => ?_)
    refine wpc_if (a := 34) (b := 33) rfl (by decide) rfl rfl (wpc_br (p := v286 = (0 : Int32)) ⟨fun hc288 => ?_, fun hc288 => ?_⟩)
    · have h289 := h287.1 hc288
      exact wpc_ret rfl rfl (fun q => absurd q (by decide)) rfl ⟨rfl, h289⟩
    · have h290 := h287.2 hc288
      refine wpc_sl (n := 2) (c' := 11) (pc' := 20) (ls' := [some (.ref 0), some (.int x1), some (.int x2), some (.int (x3 + (1 : Int32)))]) (st' := []) (s' := s285) rfl ?_
      exact h290
  · have h284 := h.2 hc282
    exact wpc_ret rfl rfl (fun q => absurd q (by decide)) rfl ⟨rfl, h284⟩
theorem c2_in (a1 : Int32) (a2 : Int32) (a3 : Int32) (a4 : Int32) (s : St) (Q : Int32 → St → Prop) (h : calI PP 21 11 [.ref 0, .int a1] s (fun v163 s162 => ((v163 = (0 : Int32)) → Q (0 : Int32) s162) ∧ (¬ (v163 = (0 : Int32)) → calI PP 24 11 [.ref 0, .int a2] s162 (fun v169 s168 => ((v169 = (0 : Int32)) → Q (0 : Int32) s168) ∧ (¬ (v169 = (0 : Int32)) → inb 7 a1 ∧ (((gI s168 1 (ix a1)) = (0 : Int32)) → inb 7 a1 ∧ inb 7 a1 ∧ calL PP 28 11 [.ref 0, .int a3, .int a4] (sI (sI s168 2 (ix a1) a2) 3 (ix a1) a2) (fun v181 s180 => inb 7 a1 ∧ inb 7 a1 ∧ inb 7 a1 ∧ inb 7 a1 ∧ calV PP 36 11 [.ref 0, .int a1, .int (1 : Int32), .int (0 : Int32), .int a2] (sI (sI (sI (sL s180 8 (ix a1) v181) 1 (ix a1) (1 : Int32)) 4 (ix a1) (1 : Int32)) 5 (ix a1) (0 : Int32)) (fun s187 => calV PP 42 11 [.ref 0, .int a1] s187 (fun s190 => Q (1 : Int32) s190)))) ∧ (¬ ((gI s168 1 (ix a1)) = (0 : Int32)) → Q (0 : Int32) s168)))))) : calI PP 2 11 [.ref 0, .int a1, .int a2, .int a3, .int a4] s Q := by
  refine cal_of (me := cm2) (ls := [some (.ref 0), some (.int a1), some (.int a2), some (.int a3), some (.int a4)]) rfl (Nat.le_of_ble_eq_true rfl) rfl ?_
  refine wpc_sl (n := 2) (c' := 11) (pc' := 2) (ls' := [some (.ref 0), some (.int a1), some (.int a2), some (.int a3), some (.int a4)]) (st' := [.int a1, .ref 0]) (s' := s) rfl ?_
  refine wpc_callI (m' := 21) (me' := cm21) (as := [.int a1]) (r := []) rfl rfl rfl rfl rfl ⟨by decide, (by first | decide | exact Nat.le_of_ble_eq_true rfl), (by first | decide | exact Nat.le_of_ble_eq_true rfl), rfl⟩ (calI.mono h fun v163 s162 h164 => ?_)
  refine wpc_if (a := 10) (b := 8) rfl (by decide) rfl rfl (wpc_br (p := v163 = (0 : Int32)) ⟨fun hc165 => ?_, fun hc165 => ?_⟩)
  · have h166 := h164.1 hc165
    refine wpc_sl (n := 1) (c' := 11) (pc' := 9) (ls' := [some (.ref 0), some (.int a1), some (.int a2), some (.int a3), some (.int a4)]) (st' := [.int (0 : Int32)]) (s' := s162) rfl ?_
    exact wpc_ret rfl rfl (fun q => absurd q (by decide)) rfl ⟨(0 : Int32), rfl, h166⟩
  · have h167 := h164.2 hc165
    refine wpc_sl (n := 2) (c' := 11) (pc' := 12) (ls' := [some (.ref 0), some (.int a1), some (.int a2), some (.int a3), some (.int a4)]) (st' := [.int a2, .ref 0]) (s' := s162) rfl ?_
    refine wpc_callI (m' := 24) (me' := cm24) (as := [.int a2]) (r := []) rfl rfl rfl rfl rfl ⟨by decide, (by first | decide | exact Nat.le_of_ble_eq_true rfl), (by first | decide | exact Nat.le_of_ble_eq_true rfl), rfl⟩ (calI.mono h167 fun v169 s168 h170 => ?_)
    refine wpc_if (a := 20) (b := 18) rfl (by decide) rfl rfl (wpc_br (p := v169 = (0 : Int32)) ⟨fun hc171 => ?_, fun hc171 => ?_⟩)
    · have h172 := h170.1 hc171
      refine wpc_sl (n := 1) (c' := 11) (pc' := 19) (ls' := [some (.ref 0), some (.int a1), some (.int a2), some (.int a3), some (.int a4)]) (st' := [.int (0 : Int32)]) (s' := s168) rfl ?_
      exact wpc_ret rfl rfl (fun q => absurd q (by decide)) rfl ⟨(0 : Int32), rfl, h172⟩
    · have h173 := h170.2 hc171
      refine wpc_sl (n := 3) (c' := 11) (pc' := 25) (ls' := [some (.ref 0), some (.int a1), some (.int a2), some (.int a3), some (.int a4)]) (st' := [.int a1, .ref 1]) (s' := s168) rfl ?_
      refine wpc_ldaI (a := 0) (N := 7) (v := (gI s168 1 (ix a1))) rfl rfl (by decide) h173.1 rfl ?_
      have h174 := h173.2
      refine wpc_if (a := 31) (b := 29) rfl (by decide) rfl rfl (wpc_br (p := (gI s168 1 (ix a1)) = (0 : Int32)) ⟨fun hc175 => ?_, fun hc175 => ?_⟩)
      · have h176 := h174.1 hc175
        refine wpc_sl (n := 4) (c' := 11) (pc' := 37) (ls' := [some (.ref 0), some (.int a1), some (.int a2), some (.int a3), some (.int a4)]) (st' := [.int a2, .int a1, .ref 2]) (s' := s168) rfl ?_
        refine wpc_staI (a := 1) (N := 7) (s' := (sI s168 2 (ix a1) a2)) rfl rfl (by decide) h176.1 rfl ?_
        have h178 := h176.2
        refine wpc_sl (n := 4) (c' := 11) (pc' := 44) (ls' := [some (.ref 0), some (.int a1), some (.int a2), some (.int a3), some (.int a4)]) (st' := [.int a2, .int a1, .ref 3]) (s' := (sI s168 2 (ix a1) a2)) rfl ?_
        refine wpc_staI (a := 2) (N := 7) (s' := (sI (sI s168 2 (ix a1) a2) 3 (ix a1) a2)) rfl rfl (by decide) h178.1 rfl ?_
        have h179 := h178.2
        refine wpc_sl (n := 6) (c' := 11) (pc' := 54) (ls' := [some (.ref 0), some (.int a1), some (.int a2), some (.int a3), some (.int a4)]) (st' := [.int a4, .int a3, .ref 0, .int a1, .ref 8]) (s' := (sI (sI s168 2 (ix a1) a2) 3 (ix a1) a2)) rfl ?_
        refine wpc_callL (m' := 28) (me' := cm28) (as := [.int a3, .int a4]) (r := [.int a1, .ref 8]) rfl rfl rfl rfl rfl ⟨by decide, (by first | decide | exact Nat.le_of_ble_eq_true rfl), (by first | decide | exact Nat.le_of_ble_eq_true rfl), rfl⟩ (calL.mono h179 fun v181 s180 h182 => ?_)
        refine wpc_staJ (a := 7) (N := 7) (s' := (sL s180 8 (ix a1) v181)) rfl rfl (by decide) h182.1 rfl ?_
        have h183 := h182.2
        refine wpc_sl (n := 4) (c' := 11) (pc' := 64) (ls' := [some (.ref 0), some (.int a1), some (.int a2), some (.int a3), some (.int a4)]) (st' := [.int (1 : Int32), .int a1, .ref 1]) (s' := (sL s180 8 (ix a1) v181)) rfl ?_
        refine wpc_staI (a := 0) (N := 7) (s' := (sI (sL s180 8 (ix a1) v181) 1 (ix a1) (1 : Int32))) rfl rfl (by decide) h183.1 rfl ?_
        have h184 := h183.2
        refine wpc_sl (n := 4) (c' := 11) (pc' := 71) (ls' := [some (.ref 0), some (.int a1), some (.int a2), some (.int a3), some (.int a4)]) (st' := [.int (1 : Int32), .int a1, .ref 4]) (s' := (sI (sL s180 8 (ix a1) v181) 1 (ix a1) (1 : Int32))) rfl ?_
        refine wpc_staI (a := 3) (N := 7) (s' := (sI (sI (sL s180 8 (ix a1) v181) 1 (ix a1) (1 : Int32)) 4 (ix a1) (1 : Int32))) rfl rfl (by decide) h184.1 rfl ?_
        have h185 := h184.2
        refine wpc_sl (n := 4) (c' := 11) (pc' := 78) (ls' := [some (.ref 0), some (.int a1), some (.int a2), some (.int a3), some (.int a4)]) (st' := [.int (0 : Int32), .int a1, .ref 5]) (s' := (sI (sI (sL s180 8 (ix a1) v181) 1 (ix a1) (1 : Int32)) 4 (ix a1) (1 : Int32))) rfl ?_
        refine wpc_staI (a := 4) (N := 7) (s' := (sI (sI (sI (sL s180 8 (ix a1) v181) 1 (ix a1) (1 : Int32)) 4 (ix a1) (1 : Int32)) 5 (ix a1) (0 : Int32))) rfl rfl (by decide) h185.1 rfl ?_
        have h186 := h185.2
        refine wpc_sl (n := 5) (c' := 11) (pc' := 84) (ls' := [some (.ref 0), some (.int a1), some (.int a2), some (.int a3), some (.int a4)]) (st' := [.int a2, .int (0 : Int32), .int (1 : Int32), .int a1, .ref 0]) (s' := (sI (sI (sI (sL s180 8 (ix a1) v181) 1 (ix a1) (1 : Int32)) 4 (ix a1) (1 : Int32)) 5 (ix a1) (0 : Int32))) rfl ?_
        refine wpc_callV (m' := 36) (me' := cm36) (as := [.int a1, .int (1 : Int32), .int (0 : Int32), .int a2]) (r := []) rfl rfl rfl rfl rfl ⟨by decide, (by first | decide | exact Nat.le_of_ble_eq_true rfl), (by first | decide | exact Nat.le_of_ble_eq_true rfl), rfl⟩ (calV.mono h186 fun s187 h189 => ?_)
        refine wpc_sl (n := 2) (c' := 11) (pc' := 89) (ls' := [some (.ref 0), some (.int a1), some (.int a2), some (.int a3), some (.int a4)]) (st' := [.int a1, .ref 0]) (s' := s187) rfl ?_
        refine wpc_callV (m' := 42) (me' := cm42) (as := [.int a1]) (r := []) rfl rfl rfl rfl rfl ⟨by decide, (by first | decide | exact Nat.le_of_ble_eq_true rfl), (by first | decide | exact Nat.le_of_ble_eq_true rfl), rfl⟩ (calV.mono h189 fun s190 h192 => ?_)
        refine wpc_sl (n := 1) (c' := 11) (pc' := 93) (ls' := [some (.ref 0), some (.int a1), some (.int a2), some (.int a3), some (.int a4)]) (st' := [.int (1 : Int32)]) (s' := s190) rfl ?_
        exact wpc_ret rfl rfl (fun q => absurd q (by decide)) rfl ⟨(1 : Int32), rfl, h192⟩
      · have h177 := h174.2 hc175
        refine wpc_sl (n := 1) (c' := 11) (pc' := 30) (ls' := [some (.ref 0), some (.int a1), some (.int a2), some (.int a3), some (.int a4)]) (st' := [.int (0 : Int32)]) (s' := s168) rfl ?_
        exact wpc_ret rfl rfl (fun q => absurd q (by decide)) rfl ⟨(0 : Int32), rfl, h177⟩
theorem c26_in (a1 : Int32) (a2 : Int32) (s : St) (Q : Int32 → St → Prop) (h : ((((XT.ushr a1 a2) &&& (1 : Int32)) = (1 : Int32)) → Q (1 : Int32) s) ∧ (¬ (((XT.ushr a1 a2) &&& (1 : Int32)) = (1 : Int32)) → Q (0 : Int32) s)) : calI PP 26 11 [.ref 0, .int a1, .int a2] s Q := by
  refine cal_of (me := cm26) (ls := [some (.ref 0), some (.int a1), some (.int a2)]) rfl (Nat.le_of_ble_eq_true rfl) rfl ?_
  refine wpc_sl (n := 6) (c' := 11) (pc' := 6) (ls' := [some (.ref 0), some (.int a1), some (.int a2)]) (st' := [.int (1 : Int32), .int ((XT.ushr a1 a2) &&& (1 : Int32))]) (s' := s) rfl ?_
  refine wpc_icmp (a := 13) (b := 9) rfl (by decide) rfl rfl (wpc_br (p := ((XT.ushr a1 a2) &&& (1 : Int32)) = (1 : Int32)) ⟨fun hc459 => ?_, fun hc459 => ?_⟩)
  · have h460 := h.1 hc459
    refine wpc_sl (n := 2) (c' := 11) (pc' := 14) (ls' := [some (.ref 0), some (.int a1), some (.int a2)]) (st' := [.int (1 : Int32)]) (s' := s) rfl ?_
    exact wpc_ret rfl rfl (fun q => absurd q (by decide)) rfl ⟨(1 : Int32), rfl, h460⟩
  · have h461 := h.2 hc459
    refine wpc_sl (n := 1) (c' := 11) (pc' := 14) (ls' := [some (.ref 0), some (.int a1), some (.int a2)]) (st' := [.int (0 : Int32)]) (s' := s) rfl ?_
    exact wpc_ret rfl rfl (fun q => absurd q (by decide)) rfl ⟨(0 : Int32), rfl, h461⟩
theorem c39_in (a1 : Int32) (a2 : Int32) (a3 : Int32) (a4 : Int32) (s : St) (Q : Int32 → St → Prop) (h : inb 7 a2 ∧ (((gI s 1 (ix a2)) = (3 : Int32)) → Q (0 : Int32) s) ∧ (¬ ((gI s 1 (ix a2)) = (3 : Int32)) → calI PP 34 11 [.ref 0, .int a1, .int a2, .int a3, .int a4] s (fun v483 s482 => ((v483 = (1 : Int32)) → calV PP 35 11 [.ref 0, .int a1, .int a2, .int a3, .int a4, .int (2 : Int32)] s482 (fun s488 => calV PP 42 11 [.ref 0, .int a2] s488 (fun s491 => Q (1 : Int32) s491))) ∧ (¬ (v483 = (1 : Int32)) → Q (0 : Int32) s482)))) : calI PP 39 11 [.ref 0, .int a1, .int a2, .int a3, .int a4] s Q := by
  refine cal_of (me := cm39) (ls := [some (.ref 0), some (.int a1), some (.int a2), some (.int a3), some (.int a4)]) rfl (Nat.le_of_ble_eq_true rfl) rfl ?_
  refine wpc_sl (n := 3) (c' := 11) (pc' := 5) (ls' := [some (.ref 0), some (.int a1), some (.int a2), some (.int a3), some (.int a4)]) (st' := [.int a2, .ref 1]) (s' := s) rfl ?_
  refine wpc_ldaI (a := 0) (N := 7) (v := (gI s 1 (ix a2))) rfl rfl (by decide) h.1 rfl ?_
  have h478 := h.2
  refine wpc_sl (n := 1) (c' := 11) (pc' := 7) (ls' := [some (.ref 0), some (.int a1), some (.int a2), some (.int a3), some (.int a4)]) (st' := [.int (3 : Int32), .int (gI s 1 (ix a2))]) (s' := s) rfl ?_
  refine wpc_icmp (a := 12) (b := 10) rfl (by decide) rfl rfl (wpc_br (p := (gI s 1 (ix a2)) = (3 : Int32)) ⟨fun hc479 => ?_, fun hc479 => ?_⟩)
  · have h480 := h478.1 hc479
    refine wpc_sl (n := 1) (c' := 11) (pc' := 11) (ls' := [some (.ref 0), some (.int a1), some (.int a2), some (.int a3), some (.int a4)]) (st' := [.int (0 : Int32)]) (s' := s) rfl ?_
    exact wpc_ret rfl rfl (fun q => absurd q (by decide)) rfl ⟨(0 : Int32), rfl, h480⟩
  · have h481 := h478.2 hc479
    refine wpc_sl (n := 5) (c' := 11) (pc' := 18) (ls' := [some (.ref 0), some (.int a1), some (.int a2), some (.int a3), some (.int a4)]) (st' := [.int a4, .int a3, .int a2, .int a1, .ref 0]) (s' := s) rfl ?_
    refine wpc_callI (m' := 34) (me' := cm34) (as := [.int a1, .int a2, .int a3, .int a4]) (r := []) rfl rfl rfl rfl rfl ⟨by decide, (by first | decide | exact Nat.le_of_ble_eq_true rfl), (by first | decide | exact Nat.le_of_ble_eq_true rfl), rfl⟩ (calI.mono h481 fun v483 s482 h484 => ?_)
    refine wpc_sl (n := 1) (c' := 11) (pc' := 22) (ls' := [some (.ref 0), some (.int a1), some (.int a2), some (.int a3), some (.int a4)]) (st' := [.int (1 : Int32), .int v483]) (s' := s482) rfl ?_
    refine wpc_icmp (a := 27) (b := 25) rfl (by decide) rfl rfl (wpc_br (p := v483 = (1 : Int32)) ⟨fun hc485 => ?_, fun hc485 => ?_⟩)
    · have h486 := h484.1 hc485
      refine wpc_sl (n := 6) (c' := 11) (pc' := 34) (ls' := [some (.ref 0), some (.int a1), some (.int a2), some (.int a3), some (.int a4)]) (st' := [.int (2 : Int32), .int a4, .int a3, .int a2, .int a1, .ref 0]) (s' := s482) rfl ?_
      refine wpc_callV (m' := 35) (me' := cm35) (as := [.int a1, .int a2, .int a3, .int a4, .int (2 : Int32)]) (r := []) rfl rfl rfl rfl rfl ⟨by decide, (by first | decide | exact Nat.le_of_ble_eq_true rfl), (by first | decide | exact Nat.le_of_ble_eq_true rfl), rfl⟩ (calV.mono h486 fun s488 h490 => ?_)
      refine wpc_sl (n := 2) (c' := 11) (pc' := 39) (ls' := [some (.ref 0), some (.int a1), some (.int a2), some (.int a3), some (.int a4)]) (st' := [.int a2, .ref 0]) (s' := s488) rfl ?_
      refine wpc_callV (m' := 42) (me' := cm42) (as := [.int a2]) (r := []) rfl rfl rfl rfl rfl ⟨by decide, (by first | decide | exact Nat.le_of_ble_eq_true rfl), (by first | decide | exact Nat.le_of_ble_eq_true rfl), rfl⟩ (calV.mono h490 fun s491 h493 => ?_)
      refine wpc_sl (n := 1) (c' := 11) (pc' := 43) (ls' := [some (.ref 0), some (.int a1), some (.int a2), some (.int a3), some (.int a4)]) (st' := [.int (1 : Int32)]) (s' := s491) rfl ?_
      exact wpc_ret rfl rfl (fun q => absurd q (by decide)) rfl ⟨(1 : Int32), rfl, h493⟩
    · have h487 := h484.2 hc485
      refine wpc_sl (n := 1) (c' := 11) (pc' := 26) (ls' := [some (.ref 0), some (.int a1), some (.int a2), some (.int a3), some (.int a4)]) (st' := [.int (0 : Int32)]) (s' := s482) rfl ?_
      exact wpc_ret rfl rfl (fun q => absurd q (by decide)) rfl ⟨(0 : Int32), rfl, h487⟩
theorem c38_in (a1 : Int32) (a2 : Int32) (a3 : Int32) (a4 : Int32) (s : St) (Q : Int32 → St → Prop) (h : wpcI PP 38 cm38 11 6 [some (.ref 0), some (.int a1), some (.int a2), some (.int a3), some (.int a4), some (.int (0 : Int32)), some (.int (0 : Int32))] [] s Q) : calI PP 38 11 [.ref 0, .int a1, .int a2, .int a3, .int a4] s Q := by
  refine cal_of (me := cm38) (ls := [some (.ref 0), some (.int a1), some (.int a2), some (.int a3), some (.int a4), none, none]) rfl (Nat.le_of_ble_eq_true rfl) rfl ?_
  refine wpc_sl (n := 4) (c' := 11) (pc' := 6) (ls' := [some (.ref 0), some (.int a1), some (.int a2), some (.int a3), some (.int a4), some (.int (0 : Int32)), some (.int (0 : Int32))]) (st' := []) (s' := s) rfl ?_
  exact h
theorem c38_6 (x1 : Int32) (x2 : Int32) (x3 : Int32) (x4 : Int32) (x5 : Int32) (x6 : Int32) (s : St) (Q : Int32 → St → Prop) (h : ((x6 < (7 : Int32)) → calI PP 26 11 [.ref 0, .int x1, .int x6] s (fun v466 s465 => ((v466 = (0 : Int32)) → wpcI PP 38 cm38 11 39 [some (.ref 0), some (.int x1), some (.int x2), some (.int x3), some (.int x4), some (.int x5), some (.int x6)] [] s465 Q) ∧ (¬ (v466 = (0 : Int32)) → calI PP 39 11 [.ref 0, .int x6, .int x2, .int x3, .int x4] s465 (fun v472 s471 => ∀ m474, m474 = (if v472 = (0 : Int32) then x5 else (x5 + (1 : Int32))) → (wpcI PP 38 cm38 11 39 [some (.ref 0), some (.int x1), some (.int x2), some (.int x3), some (.int x4), some (.int m474), some (.int x6)] [] s471 Q))))) ∧ (¬ (x6 < (7 : Int32)) → Q x5 s)) : wpcI PP 38 cm38 11 6 [some (.ref 0), some (.int x1), some (.int x2), some (.int x3), some (.int x4), some (.int x5), some (.int x6)] [] s Q := by
  refine wpc_sl (n := 2) (c' := 11) (pc' := 10) (ls' := [some (.ref 0), some (.int x1), some (.int x2), some (.int x3), some (.int x4), some (.int x5), some (.int x6)]) (st' := [.int (7 : Int32), .int x6]) (s' := s) rfl ?_
  refine wpc_icmp (a := 45) (b := 13) rfl (by decide) rfl rfl (wpc_br (p := x6 < (7 : Int32)) ⟨fun hc462 => ?_, fun hc462 => ?_⟩)
  · have h463 := h.1 hc462
    refine wpc_sl (n := 3) (c' := 11) (pc' := 17) (ls' := [some (.ref 0), some (.int x1), some (.int x2), some (.int x3), some (.int x4), some (.int x5), some (.int x6)]) (st' := [.int x6, .int x1, .ref 0]) (s' := s) rfl ?_
    refine wpc_callI (m' := 26) (me' := cm26) (as := [.int x1, .int x6]) (r := []) rfl rfl rfl rfl rfl ⟨by decide, (by first | decide | exact Nat.le_of_ble_eq_true rfl), (by first | decide | exact Nat.le_of_ble_eq_true rfl), rfl⟩ (calI.mono h463 fun v466 s465 h467 => ?_)
    refine wpc_if (a := 39) (b := 23) rfl (by decide) rfl rfl (wpc_br (p := v466 = (0 : Int32)) ⟨fun hc468 => ?_, fun hc468 => ?_⟩)
    · have h469 := h467.1 hc468
      exact h469
    · have h470 := h467.2 hc468
      refine wpc_sl (n := 5) (c' := 11) (pc' := 30) (ls' := [some (.ref 0), some (.int x1), some (.int x2), some (.int x3), some (.int x4), some (.int x5), some (.int x6)]) (st' := [.int x4, .int x3, .int x2, .int x6, .ref 0]) (s' := s465) rfl ?_
      refine wpc_callI (m' := 39) (me' := cm39) (as := [.int x6, .int x2, .int x3, .int x4]) (r := []) rfl rfl rfl rfl rfl ⟨by decide, (by first | decide | exact Nat.le_of_ble_eq_true rfl), (by first | decide | exact Nat.le_of_ble_eq_true rfl), rfl⟩ (calI.mono h470 fun v472 s471 h473 => ?_)
      have hm475 : ∀ m474, m474 = (if v472 = (0 : Int32) then x5 else (x5 + (1 : Int32))) → wpcI PP 38 cm38 11 39 [some (.ref 0), some (.int x1), some (.int x2), some (.int x3), some (.int x4), some (.int m474), some (.int x6)] [] s471 Q := by
        intro m474 em474
        have h476 := h473 m474 em474
        exact h476
      refine wpc_if (a := 39) (b := 36) rfl (by decide) rfl rfl (wpc_br (p := v472 = (0 : Int32)) ⟨fun hc477 => ?_, fun hc477 => ?_⟩)
      · first | exact hm475 _ (by simp only [if_pos hc477]) | exact wpc_lle (by repeat (first | exact trivial | refine ⟨rfl, ?_⟩)) (hm475 _ (by simp only [if_pos hc477]))
      · refine wpc_sl (n := 1) (c' := 11) (pc' := 39) (ls' := [some (.ref 0), some (.int x1), some (.int x2), some (.int x3), some (.int x4), some (.int (x5 + (1 : Int32))), some (.int x6)]) (st' := []) (s' := s471) rfl ?_
        first | exact hm475 _ (by simp only [if_neg hc477]) | exact wpc_lle (by repeat (first | exact trivial | refine ⟨rfl, ?_⟩)) (hm475 _ (by simp only [if_neg hc477]))
  · have h464 := h.2 hc462
    refine wpc_sl (n := 1) (c' := 11) (pc' := 47) (ls' := [some (.ref 0), some (.int x1), some (.int x2), some (.int x3), some (.int x4), some (.int x5), some (.int x6)]) (st' := [.int x5]) (s' := s) rfl ?_
    exact wpc_ret rfl rfl (fun q => absurd q (by decide)) rfl ⟨x5, rfl, h464⟩
theorem c38_39 (x1 : Int32) (x2 : Int32) (x3 : Int32) (x4 : Int32) (x5 : Int32) (x6 : Int32) (s : St) (Q : Int32 → St → Prop) (h : wpcI PP 38 cm38 11 6 [some (.ref 0), some (.int x1), some (.int x2), some (.int x3), some (.int x4), some (.int x5), some (.int (x6 + (1 : Int32)))] [] s Q) : wpcI PP 38 cm38 11 39 [some (.ref 0), some (.int x1), some (.int x2), some (.int x3), some (.int x4), some (.int x5), some (.int x6)] [] s Q := by
  refine wpc_sl (n := 2) (c' := 11) (pc' := 6) (ls' := [some (.ref 0), some (.int x1), some (.int x2), some (.int x3), some (.int x4), some (.int x5), some (.int (x6 + (1 : Int32)))]) (st' := []) (s' := s) rfl ?_
  exact h
theorem c3_in (a1 : Int32) (a2 : Int32) (a3 : Int32) (a4 : Int32) (s : St) (Q : Int32 → St → Prop) (h : calI PP 22 11 [.ref 0, .int a3] s (fun v436 s435 => ((v436 = (0 : Int32)) → Q (0 : Int32) s435) ∧ (¬ (v436 = (0 : Int32)) → calI PP 23 11 [.ref 0, .int a4] s435 (fun v442 s441 => ((v442 = (0 : Int32)) → Q (0 : Int32) s441) ∧ (¬ (v442 = (0 : Int32)) → wpcI PP 3 cm3 11 27 [some (.ref 0), some (.int a1), some (.int a2), some (.int a3), some (.int a4), some (.int (0 : Int32)), some (.int (0 : Int32))] [] s441 Q))))) : calI PP 3 11 [.ref 0, .int a1, .int a2, .int a3, .int a4] s Q := by
  refine cal_of (me := cm3) (ls := [some (.ref 0), some (.int a1), some (.int a2), some (.int a3), some (.int a4), none, none]) rfl (Nat.le_of_ble_eq_true rfl) rfl ?_
  refine wpc_sl (n := 2) (c' := 11) (pc' := 2) (ls' := [some (.ref 0), some (.int a1), some (.int a2), some (.int a3), some (.int a4), none, none]) (st' := [.int a3, .ref 0]) (s' := s) rfl ?_
  refine wpc_callI (m' := 22) (me' := cm22) (as := [.int a3]) (r := []) rfl rfl rfl rfl rfl ⟨by decide, (by first | decide | exact Nat.le_of_ble_eq_true rfl), (by first | decide | exact Nat.le_of_ble_eq_true rfl), rfl⟩ (calI.mono h fun v436 s435 h437 => ?_)
  refine wpc_if (a := 10) (b := 8) rfl (by decide) rfl rfl (wpc_br (p := v436 = (0 : Int32)) ⟨fun hc438 => ?_, fun hc438 => ?_⟩)
  · have h439 := h437.1 hc438
    refine wpc_sl (n := 1) (c' := 11) (pc' := 9) (ls' := [some (.ref 0), some (.int a1), some (.int a2), some (.int a3), some (.int a4), none, none]) (st' := [.int (0 : Int32)]) (s' := s435) rfl ?_
    exact wpc_ret rfl rfl (fun q => absurd q (by decide)) rfl ⟨(0 : Int32), rfl, h439⟩
  · have h440 := h437.2 hc438
    refine wpc_sl (n := 2) (c' := 11) (pc' := 13) (ls' := [some (.ref 0), some (.int a1), some (.int a2), some (.int a3), some (.int a4), none, none]) (st' := [.int a4, .ref 0]) (s' := s435) rfl ?_
    refine wpc_callI (m' := 23) (me' := cm23) (as := [.int a4]) (r := []) rfl rfl rfl rfl rfl ⟨by decide, (by first | decide | exact Nat.le_of_ble_eq_true rfl), (by first | decide | exact Nat.le_of_ble_eq_true rfl), rfl⟩ (calI.mono h440 fun v442 s441 h443 => ?_)
    refine wpc_if (a := 21) (b := 19) rfl (by decide) rfl rfl (wpc_br (p := v442 = (0 : Int32)) ⟨fun hc444 => ?_, fun hc444 => ?_⟩)
    · have h445 := h443.1 hc444
      refine wpc_sl (n := 1) (c' := 11) (pc' := 20) (ls' := [some (.ref 0), some (.int a1), some (.int a2), some (.int a3), some (.int a4), none, none]) (st' := [.int (0 : Int32)]) (s' := s441) rfl ?_
      exact wpc_ret rfl rfl (fun q => absurd q (by decide)) rfl ⟨(0 : Int32), rfl, h445⟩
    · have h446 := h443.2 hc444
      refine wpc_sl (n := 4) (c' := 11) (pc' := 27) (ls' := [some (.ref 0), some (.int a1), some (.int a2), some (.int a3), some (.int a4), some (.int (0 : Int32)), some (.int (0 : Int32))]) (st' := []) (s' := s441) rfl ?_
      exact h446
theorem c3_27 (x1 : Int32) (x2 : Int32) (x3 : Int32) (x4 : Int32) (x5 : Int32) (x6 : Int32) (s : St) (Q : Int32 → St → Prop) (h : ((x6 < (7 : Int32)) → calI PP 26 11 [.ref 0, .int x2, .int x6] s (fun v451 s450 => ((v451 = (0 : Int32)) → wpcI PP 3 cm3 11 59 [some (.ref 0), some (.int x1), some (.int x2), some (.int x3), some (.int x4), some (.int x5), some (.int x6)] [] s450 Q) ∧ (¬ (v451 = (0 : Int32)) → calI PP 38 11 [.ref 0, .int x1, .int x6, .int x3, .int x4] s450 (fun v457 s456 => wpcI PP 3 cm3 11 59 [some (.ref 0), some (.int x1), some (.int x2), some (.int x3), some (.int x4), some (.int (x5 + v457)), some (.int x6)] [] s456 Q)))) ∧ (¬ (x6 < (7 : Int32)) → Q x5 s)) : wpcI PP 3 cm3 11 27 [some (.ref 0), some (.int x1), some (.int x2), some (.int x3), some (.int x4), some (.int x5), some (.int x6)] [] s Q := by
  refine wpc_sl (n := 2) (c' := 11) (pc' := 31) (ls' := [some (.ref 0), some (.int x1), some (.int x2), some (.int x3), some (.int x4), some (.int x5), some (.int x6)]) (st' := [.int (7 : Int32), .int x6]) (s' := s) rfl ?_
  refine wpc_icmp (a := 65) (b := 34) rfl (by decide) rfl rfl (wpc_br (p := x6 < (7 : Int32)) ⟨fun hc447 => ?_, fun hc447 => ?_⟩)
  · have h448 := h.1 hc447
    refine wpc_sl (n := 3) (c' := 11) (pc' := 38) (ls' := [some (.ref 0), some (.int x1), some (.int x2), some (.int x3), some (.int x4), some (.int x5), some (.int x6)]) (st' := [.int x6, .int x2, .ref 0]) (s' := s) rfl ?_
    refine wpc_callI (m' := 26) (me' := cm26) (as := [.int x2, .int x6]) (r := []) rfl rfl rfl rfl rfl ⟨by decide, (by first | decide | exact Nat.le_of_ble_eq_true rfl), (by first | decide | exact Nat.le_of_ble_eq_true rfl), rfl⟩ (calI.mono h448 fun v451 s450 h452 => ?_)
    refine wpc_if (a := 59) (b := 44) rfl (by decide) rfl rfl (wpc_br (p := v451 = (0 : Int32)) ⟨fun hc453 => ?_, fun hc453 => ?_⟩)
    · have h454 := h452.1 hc453
      exact h454
    · have h455 := h452.2 hc453
      refine wpc_sl (n := 6) (c' := 11) (pc' := 53) (ls' := [some (.ref 0), some (.int x1), some (.int x2), some (.int x3), some (.int x4), some (.int x5), some (.int x6)]) (st' := [.int x4, .int x3, .int x6, .int x1, .ref 0, .int x5]) (s' := s450) rfl ?_
      refine wpc_callI (m' := 38) (me' := cm38) (as := [.int x1, .int x6, .int x3, .int x4]) (r := [.int x5]) rfl rfl rfl rfl rfl ⟨by decide, (by first | decide | exact Nat.le_of_ble_eq_true rfl), (by first | decide | exact Nat.le_of_ble_eq_true rfl), rfl⟩ (calI.mono h455 fun v457 s456 h458 => ?_)
      refine wpc_sl (n := 2) (c' := 11) (pc' := 59) (ls' := [some (.ref 0), some (.int x1), some (.int x2), some (.int x3), some (.int x4), some (.int (x5 + v457)), some (.int x6)]) (st' := []) (s' := s456) rfl ?_
      exact h458
  · have h449 := h.2 hc447
    refine wpc_sl (n := 1) (c' := 11) (pc' := 67) (ls' := [some (.ref 0), some (.int x1), some (.int x2), some (.int x3), some (.int x4), some (.int x5), some (.int x6)]) (st' := [.int x5]) (s' := s) rfl ?_
    exact wpc_ret rfl rfl (fun q => absurd q (by decide)) rfl ⟨x5, rfl, h449⟩
theorem c3_59 (x1 : Int32) (x2 : Int32) (x3 : Int32) (x4 : Int32) (x5 : Int32) (x6 : Int32) (s : St) (Q : Int32 → St → Prop) (h : wpcI PP 3 cm3 11 27 [some (.ref 0), some (.int x1), some (.int x2), some (.int x3), some (.int x4), some (.int x5), some (.int (x6 + (1 : Int32)))] [] s Q) : wpcI PP 3 cm3 11 59 [some (.ref 0), some (.int x1), some (.int x2), some (.int x3), some (.int x4), some (.int x5), some (.int x6)] [] s Q := by
  refine wpc_sl (n := 2) (c' := 11) (pc' := 27) (ls' := [some (.ref 0), some (.int x1), some (.int x2), some (.int x3), some (.int x4), some (.int x5), some (.int (x6 + (1 : Int32)))]) (st' := []) (s' := s) rfl ?_
  exact h
theorem c5_in (a1 : Int32) (s : St) (Q : Int32 → St → Prop) (h : calI PP 21 11 [.ref 0, .int a1] s (fun v495 s494 => ((v495 = (0 : Int32)) → Q (-1 : Int32) s494) ∧ (¬ (v495 = (0 : Int32)) → inb 7 a1 ∧ Q (gI s494 1 (ix a1)) s494))) : calI PP 5 11 [.ref 0, .int a1] s Q := by
  refine cal_of (me := cm5) (ls := [some (.ref 0), some (.int a1)]) rfl (Nat.le_of_ble_eq_true rfl) rfl ?_
  refine wpc_sl (n := 2) (c' := 11) (pc' := 2) (ls' := [some (.ref 0), some (.int a1)]) (st' := [.int a1, .ref 0]) (s' := s) rfl ?_
  refine wpc_callI (m' := 21) (me' := cm21) (as := [.int a1]) (r := []) rfl rfl rfl rfl rfl ⟨by decide, (by first | decide | exact Nat.le_of_ble_eq_true rfl), (by first | decide | exact Nat.le_of_ble_eq_true rfl), rfl⟩ (calI.mono h fun v495 s494 h496 => ?_)
  refine wpc_if (a := 10) (b := 8) rfl (by decide) rfl rfl (wpc_br (p := v495 = (0 : Int32)) ⟨fun hc497 => ?_, fun hc497 => ?_⟩)
  · have h498 := h496.1 hc497
    refine wpc_sl (n := 1) (c' := 11) (pc' := 9) (ls' := [some (.ref 0), some (.int a1)]) (st' := [.int (-1 : Int32)]) (s' := s494) rfl ?_
    exact wpc_ret rfl rfl (fun q => absurd q (by decide)) rfl ⟨(-1 : Int32), rfl, h498⟩
  · have h499 := h496.2 hc497
    refine wpc_sl (n := 3) (c' := 11) (pc' := 15) (ls' := [some (.ref 0), some (.int a1)]) (st' := [.int a1, .ref 1]) (s' := s494) rfl ?_
    refine wpc_ldaI (a := 0) (N := 7) (v := (gI s494 1 (ix a1))) rfl rfl (by decide) h499.1 rfl ?_
    have h500 := h499.2
    exact wpc_ret rfl rfl (fun q => absurd q (by decide)) rfl ⟨(gI s494 1 (ix a1)), rfl, h500⟩
theorem c12_in (a1 : Int32) (a2 : Int32) (a3 : Int32) (s : St) (Q : Int32 → St → Prop) (h : calI PP 21 11 [.ref 0, .int a1] s (fun v502 s501 => ((v502 = (0 : Int32)) → Q (-1 : Int32) s501) ∧ (¬ (v502 = (0 : Int32)) → calI PP 22 11 [.ref 0, .int a2] s501 (fun v508 s507 => ((v508 = (0 : Int32)) → Q (-1 : Int32) s507) ∧ (¬ (v508 = (0 : Int32)) → calI PP 23 11 [.ref 0, .int a3] s507 (fun v514 s513 => ((v514 = (0 : Int32)) → Q (-1 : Int32) s513) ∧ (¬ (v514 = (0 : Int32)) → calI PP 32 11 [.ref 0, .int a1, .int a2, .int a3] s513 (fun v520 s519 => Q v520 s519)))))))) : calI PP 12 11 [.ref 0, .int a1, .int a2, .int a3] s Q := by
  refine cal_of (me := cm12) (ls := [some (.ref 0), some (.int a1), some (.int a2), some (.int a3)]) rfl (Nat.le_of_ble_eq_true rfl) rfl ?_
  refine wpc_sl (n := 2) (c' := 11) (pc' := 2) (ls' := [some (.ref 0), some (.int a1), some (.int a2), some (.int a3)]) (st' := [.int a1, .ref 0]) (s' := s) rfl ?_
  refine wpc_callI (m' := 21) (me' := cm21) (as := [.int a1]) (r := []) rfl rfl rfl rfl rfl ⟨by decide, (by first | decide | exact Nat.le_of_ble_eq_true rfl), (by first | decide | exact Nat.le_of_ble_eq_true rfl), rfl⟩ (calI.mono h fun v502 s501 h503 => ?_)
  refine wpc_if (a := 10) (b := 8) rfl (by decide) rfl rfl (wpc_br (p := v502 = (0 : Int32)) ⟨fun hc504 => ?_, fun hc504 => ?_⟩)
  · have h505 := h503.1 hc504
    refine wpc_sl (n := 1) (c' := 11) (pc' := 9) (ls' := [some (.ref 0), some (.int a1), some (.int a2), some (.int a3)]) (st' := [.int (-1 : Int32)]) (s' := s501) rfl ?_
    exact wpc_ret rfl rfl (fun q => absurd q (by decide)) rfl ⟨(-1 : Int32), rfl, h505⟩
  · have h506 := h503.2 hc504
    refine wpc_sl (n := 2) (c' := 11) (pc' := 12) (ls' := [some (.ref 0), some (.int a1), some (.int a2), some (.int a3)]) (st' := [.int a2, .ref 0]) (s' := s501) rfl ?_
    refine wpc_callI (m' := 22) (me' := cm22) (as := [.int a2]) (r := []) rfl rfl rfl rfl rfl ⟨by decide, (by first | decide | exact Nat.le_of_ble_eq_true rfl), (by first | decide | exact Nat.le_of_ble_eq_true rfl), rfl⟩ (calI.mono h506 fun v508 s507 h509 => ?_)
    refine wpc_if (a := 20) (b := 18) rfl (by decide) rfl rfl (wpc_br (p := v508 = (0 : Int32)) ⟨fun hc510 => ?_, fun hc510 => ?_⟩)
    · have h511 := h509.1 hc510
      refine wpc_sl (n := 1) (c' := 11) (pc' := 19) (ls' := [some (.ref 0), some (.int a1), some (.int a2), some (.int a3)]) (st' := [.int (-1 : Int32)]) (s' := s507) rfl ?_
      exact wpc_ret rfl rfl (fun q => absurd q (by decide)) rfl ⟨(-1 : Int32), rfl, h511⟩
    · have h512 := h509.2 hc510
      refine wpc_sl (n := 2) (c' := 11) (pc' := 22) (ls' := [some (.ref 0), some (.int a1), some (.int a2), some (.int a3)]) (st' := [.int a3, .ref 0]) (s' := s507) rfl ?_
      refine wpc_callI (m' := 23) (me' := cm23) (as := [.int a3]) (r := []) rfl rfl rfl rfl rfl ⟨by decide, (by first | decide | exact Nat.le_of_ble_eq_true rfl), (by first | decide | exact Nat.le_of_ble_eq_true rfl), rfl⟩ (calI.mono h512 fun v514 s513 h515 => ?_)
      refine wpc_if (a := 30) (b := 28) rfl (by decide) rfl rfl (wpc_br (p := v514 = (0 : Int32)) ⟨fun hc516 => ?_, fun hc516 => ?_⟩)
      · have h517 := h515.1 hc516
        refine wpc_sl (n := 1) (c' := 11) (pc' := 29) (ls' := [some (.ref 0), some (.int a1), some (.int a2), some (.int a3)]) (st' := [.int (-1 : Int32)]) (s' := s513) rfl ?_
        exact wpc_ret rfl rfl (fun q => absurd q (by decide)) rfl ⟨(-1 : Int32), rfl, h517⟩
      · have h518 := h515.2 hc516
        refine wpc_sl (n := 4) (c' := 11) (pc' := 34) (ls' := [some (.ref 0), some (.int a1), some (.int a2), some (.int a3)]) (st' := [.int a3, .int a2, .int a1, .ref 0]) (s' := s513) rfl ?_
        refine wpc_callI (m' := 32) (me' := cm32) (as := [.int a1, .int a2, .int a3]) (r := []) rfl rfl rfl rfl rfl ⟨by decide, (by first | decide | exact Nat.le_of_ble_eq_true rfl), (by first | decide | exact Nat.le_of_ble_eq_true rfl), rfl⟩ (calI.mono h518 fun v520 s519 h521 => ?_)
        exact wpc_ret rfl rfl (fun q => absurd q (by decide)) rfl ⟨v520, rfl, h521⟩
theorem c10_in (a1 : Int32) (s : St) (Q : Int32 → St → Prop) (h : calI PP 21 11 [.ref 0, .int a1] s (fun v523 s522 => ((v523 = (0 : Int32)) → Q (-1 : Int32) s522) ∧ (¬ (v523 = (0 : Int32)) → inb 7 a1 ∧ Q (gI s522 6 (ix a1)) s522))) : calI PP 10 11 [.ref 0, .int a1] s Q := by
  refine cal_of (me := cm10) (ls := [some (.ref 0), some (.int a1)]) rfl (Nat.le_of_ble_eq_true rfl) rfl ?_
  refine wpc_sl (n := 2) (c' := 11) (pc' := 2) (ls' := [some (.ref 0), some (.int a1)]) (st' := [.int a1, .ref 0]) (s' := s) rfl ?_
  refine wpc_callI (m' := 21) (me' := cm21) (as := [.int a1]) (r := []) rfl rfl rfl rfl rfl ⟨by decide, (by first | decide | exact Nat.le_of_ble_eq_true rfl), (by first | decide | exact Nat.le_of_ble_eq_true rfl), rfl⟩ (calI.mono h fun v523 s522 h524 => ?_)
  refine wpc_if (a := 10) (b := 8) rfl (by decide) rfl rfl (wpc_br (p := v523 = (0 : Int32)) ⟨fun hc525 => ?_, fun hc525 => ?_⟩)
  · have h526 := h524.1 hc525
    refine wpc_sl (n := 1) (c' := 11) (pc' := 9) (ls' := [some (.ref 0), some (.int a1)]) (st' := [.int (-1 : Int32)]) (s' := s522) rfl ?_
    exact wpc_ret rfl rfl (fun q => absurd q (by decide)) rfl ⟨(-1 : Int32), rfl, h526⟩
  · have h527 := h524.2 hc525
    refine wpc_sl (n := 3) (c' := 11) (pc' := 15) (ls' := [some (.ref 0), some (.int a1)]) (st' := [.int a1, .ref 6]) (s' := s522) rfl ?_
    refine wpc_ldaI (a := 5) (N := 7) (v := (gI s522 6 (ix a1))) rfl rfl (by decide) h527.1 rfl ?_
    have h528 := h527.2
    exact wpc_ret rfl rfl (fun q => absurd q (by decide)) rfl ⟨(gI s522 6 (ix a1)), rfl, h528⟩
theorem c11_in (a1 : Int32) (s : St) (Q : Int32 → St → Prop) (h : calI PP 21 11 [.ref 0, .int a1] s (fun v530 s529 => ((v530 = (0 : Int32)) → Q (-1 : Int32) s529) ∧ (¬ (v530 = (0 : Int32)) → inb 7 a1 ∧ Q (gI s529 7 (ix a1)) s529))) : calI PP 11 11 [.ref 0, .int a1] s Q := by
  refine cal_of (me := cm11) (ls := [some (.ref 0), some (.int a1)]) rfl (Nat.le_of_ble_eq_true rfl) rfl ?_
  refine wpc_sl (n := 2) (c' := 11) (pc' := 2) (ls' := [some (.ref 0), some (.int a1)]) (st' := [.int a1, .ref 0]) (s' := s) rfl ?_
  refine wpc_callI (m' := 21) (me' := cm21) (as := [.int a1]) (r := []) rfl rfl rfl rfl rfl ⟨by decide, (by first | decide | exact Nat.le_of_ble_eq_true rfl), (by first | decide | exact Nat.le_of_ble_eq_true rfl), rfl⟩ (calI.mono h fun v530 s529 h531 => ?_)
  refine wpc_if (a := 10) (b := 8) rfl (by decide) rfl rfl (wpc_br (p := v530 = (0 : Int32)) ⟨fun hc532 => ?_, fun hc532 => ?_⟩)
  · have h533 := h531.1 hc532
    refine wpc_sl (n := 1) (c' := 11) (pc' := 9) (ls' := [some (.ref 0), some (.int a1)]) (st' := [.int (-1 : Int32)]) (s' := s529) rfl ?_
    exact wpc_ret rfl rfl (fun q => absurd q (by decide)) rfl ⟨(-1 : Int32), rfl, h533⟩
  · have h534 := h531.2 hc532
    refine wpc_sl (n := 3) (c' := 11) (pc' := 15) (ls' := [some (.ref 0), some (.int a1)]) (st' := [.int a1, .ref 7]) (s' := s529) rfl ?_
    refine wpc_ldaI (a := 6) (N := 7) (v := (gI s529 7 (ix a1))) rfl rfl (by decide) h534.1 rfl ?_
    have h535 := h534.2
    exact wpc_ret rfl rfl (fun q => absurd q (by decide)) rfl ⟨(gI s529 7 (ix a1)), rfl, h535⟩
theorem c27_in (a1 : Int32) (s : St) (Q : Int32 → St → Prop) (h : inb 7 a1 ∧ (((gI s 2 (ix a1)) = (-1 : Int32)) → Q (0 : Int32) s) ∧ (¬ ((gI s 2 (ix a1)) = (-1 : Int32)) → Q (1 : Int32) s)) : calI PP 27 11 [.ref 0, .int a1] s Q := by
  refine cal_of (me := cm27) (ls := [some (.ref 0), some (.int a1)]) rfl (Nat.le_of_ble_eq_true rfl) rfl ?_
  refine wpc_sl (n := 3) (c' := 11) (pc' := 5) (ls' := [some (.ref 0), some (.int a1)]) (st' := [.int a1, .ref 2]) (s' := s) rfl ?_
  refine wpc_ldaI (a := 1) (N := 7) (v := (gI s 2 (ix a1))) rfl rfl (by decide) h.1 rfl ?_
  have h549 := h.2
  refine wpc_sl (n := 1) (c' := 11) (pc' := 7) (ls' := [some (.ref 0), some (.int a1)]) (st' := [.int (-1 : Int32), .int (gI s 2 (ix a1))]) (s' := s) rfl ?_
  refine wpc_icmp (a := 14) (b := 10) rfl (by decide) rfl rfl (wpc_br (p := (gI s 2 (ix a1)) = (-1 : Int32)) ⟨fun hc550 => ?_, fun hc550 => ?_⟩)
  · have h551 := h549.1 hc550
    refine wpc_sl (n := 1) (c' := 11) (pc' := 15) (ls' := [some (.ref 0), some (.int a1)]) (st' := [.int (0 : Int32)]) (s' := s) rfl ?_
    exact wpc_ret rfl rfl (fun q => absurd q (by decide)) rfl ⟨(0 : Int32), rfl, h551⟩
  · have h552 := h549.2 hc550
    refine wpc_sl (n := 2) (c' := 11) (pc' := 15) (ls' := [some (.ref 0), some (.int a1)]) (st' := [.int (1 : Int32)]) (s' := s) rfl ?_
    exact wpc_ret rfl rfl (fun q => absurd q (by decide)) rfl ⟨(1 : Int32), rfl, h552⟩
theorem c8_in (a1 : Int32) (s : St) (Q : Int32 → St → Prop) (h : calI PP 21 11 [.ref 0, .int a1] s (fun v537 s536 => ((v537 = (0 : Int32)) → Q (-1 : Int32) s536) ∧ (¬ (v537 = (0 : Int32)) → calI PP 27 11 [.ref 0, .int a1] s536 (fun v543 s542 => ((v543 = (0 : Int32)) → Q (-1 : Int32) s542) ∧ (¬ (v543 = (0 : Int32)) → inb 7 a1 ∧ Q (gI s542 3 (ix a1)) s542))))) : calI PP 8 11 [.ref 0, .int a1] s Q := by
  refine cal_of (me := cm8) (ls := [some (.ref 0), some (.int a1)]) rfl (Nat.le_of_ble_eq_true rfl) rfl ?_
  refine wpc_sl (n := 2) (c' := 11) (pc' := 2) (ls' := [some (.ref 0), some (.int a1)]) (st' := [.int a1, .ref 0]) (s' := s) rfl ?_
  refine wpc_callI (m' := 21) (me' := cm21) (as := [.int a1]) (r := []) rfl rfl rfl rfl rfl ⟨by decide, (by first | decide | exact Nat.le_of_ble_eq_true rfl), (by first | decide | exact Nat.le_of_ble_eq_true rfl), rfl⟩ (calI.mono h fun v537 s536 h538 => ?_)
  refine wpc_if (a := 10) (b := 8) rfl (by decide) rfl rfl (wpc_br (p := v537 = (0 : Int32)) ⟨fun hc539 => ?_, fun hc539 => ?_⟩)
  · have h540 := h538.1 hc539
    refine wpc_sl (n := 1) (c' := 11) (pc' := 9) (ls' := [some (.ref 0), some (.int a1)]) (st' := [.int (-1 : Int32)]) (s' := s536) rfl ?_
    exact wpc_ret rfl rfl (fun q => absurd q (by decide)) rfl ⟨(-1 : Int32), rfl, h540⟩
  · have h541 := h538.2 hc539
    refine wpc_sl (n := 2) (c' := 11) (pc' := 12) (ls' := [some (.ref 0), some (.int a1)]) (st' := [.int a1, .ref 0]) (s' := s536) rfl ?_
    refine wpc_callI (m' := 27) (me' := cm27) (as := [.int a1]) (r := []) rfl rfl rfl rfl rfl ⟨by decide, (by first | decide | exact Nat.le_of_ble_eq_true rfl), (by first | decide | exact Nat.le_of_ble_eq_true rfl), rfl⟩ (calI.mono h541 fun v543 s542 h544 => ?_)
    refine wpc_if (a := 20) (b := 18) rfl (by decide) rfl rfl (wpc_br (p := v543 = (0 : Int32)) ⟨fun hc545 => ?_, fun hc545 => ?_⟩)
    · have h546 := h544.1 hc545
      refine wpc_sl (n := 1) (c' := 11) (pc' := 19) (ls' := [some (.ref 0), some (.int a1)]) (st' := [.int (-1 : Int32)]) (s' := s542) rfl ?_
      exact wpc_ret rfl rfl (fun q => absurd q (by decide)) rfl ⟨(-1 : Int32), rfl, h546⟩
    · have h547 := h544.2 hc545
      refine wpc_sl (n := 3) (c' := 11) (pc' := 25) (ls' := [some (.ref 0), some (.int a1)]) (st' := [.int a1, .ref 3]) (s' := s542) rfl ?_
      refine wpc_ldaI (a := 2) (N := 7) (v := (gI s542 3 (ix a1))) rfl rfl (by decide) h547.1 rfl ?_
      have h548 := h547.2
      exact wpc_ret rfl rfl (fun q => absurd q (by decide)) rfl ⟨(gI s542 3 (ix a1)), rfl, h548⟩
theorem c14_in (a1 : Int32) (s : St) (Q : Int32 → St → Prop) (h : calI PP 21 11 [.ref 0, .int a1] s (fun v554 s553 => ((v554 = (0 : Int32)) → Q (-1 : Int32) s553) ∧ (¬ (v554 = (0 : Int32)) → inb 7 a1 ∧ Q (gI s553 9 (ix a1)) s553))) : calI PP 14 11 [.ref 0, .int a1] s Q := by
  refine cal_of (me := cm14) (ls := [some (.ref 0), some (.int a1)]) rfl (Nat.le_of_ble_eq_true rfl) rfl ?_
  refine wpc_sl (n := 2) (c' := 11) (pc' := 2) (ls' := [some (.ref 0), some (.int a1)]) (st' := [.int a1, .ref 0]) (s' := s) rfl ?_
  refine wpc_callI (m' := 21) (me' := cm21) (as := [.int a1]) (r := []) rfl rfl rfl rfl rfl ⟨by decide, (by first | decide | exact Nat.le_of_ble_eq_true rfl), (by first | decide | exact Nat.le_of_ble_eq_true rfl), rfl⟩ (calI.mono h fun v554 s553 h555 => ?_)
  refine wpc_if (a := 10) (b := 8) rfl (by decide) rfl rfl (wpc_br (p := v554 = (0 : Int32)) ⟨fun hc556 => ?_, fun hc556 => ?_⟩)
  · have h557 := h555.1 hc556
    refine wpc_sl (n := 1) (c' := 11) (pc' := 9) (ls' := [some (.ref 0), some (.int a1)]) (st' := [.int (-1 : Int32)]) (s' := s553) rfl ?_
    exact wpc_ret rfl rfl (fun q => absurd q (by decide)) rfl ⟨(-1 : Int32), rfl, h557⟩
  · have h558 := h555.2 hc556
    refine wpc_sl (n := 3) (c' := 11) (pc' := 15) (ls' := [some (.ref 0), some (.int a1)]) (st' := [.int a1, .ref 9]) (s' := s553) rfl ?_
    refine wpc_ldaI (a := 8) (N := 7) (v := (gI s553 9 (ix a1))) rfl rfl (by decide) h558.1 rfl ?_
    have h559 := h558.2
    exact wpc_ret rfl rfl (fun q => absurd q (by decide)) rfl ⟨(gI s553 9 (ix a1)), rfl, h559⟩
theorem c15_in (a1 : Int32) (s : St) (Q : Int64 → St → Prop) (h : calI PP 21 11 [.ref 0, .int a1] s (fun v561 s560 => ((v561 = (0 : Int32)) → Q (0 : Int64) s560) ∧ (¬ (v561 = (0 : Int32)) → inb 7 a1 ∧ Q (gL s560 8 (ix a1)) s560))) : calL PP 15 11 [.ref 0, .int a1] s Q := by
  refine cal_of (me := cm15) (ls := [some (.ref 0), some (.int a1)]) rfl (Nat.le_of_ble_eq_true rfl) rfl ?_
  refine wpc_sl (n := 2) (c' := 11) (pc' := 2) (ls' := [some (.ref 0), some (.int a1)]) (st' := [.int a1, .ref 0]) (s' := s) rfl ?_
  refine wpc_callI (m' := 21) (me' := cm21) (as := [.int a1]) (r := []) rfl rfl rfl rfl rfl ⟨by decide, (by first | decide | exact Nat.le_of_ble_eq_true rfl), (by first | decide | exact Nat.le_of_ble_eq_true rfl), rfl⟩ (calI.mono h fun v561 s560 h562 => ?_)
  refine wpc_if (a := 10) (b := 8) rfl (by decide) rfl rfl (wpc_br (p := v561 = (0 : Int32)) ⟨fun hc563 => ?_, fun hc563 => ?_⟩)
  · have h564 := h562.1 hc563
    refine wpc_sl (n := 1) (c' := 11) (pc' := 9) (ls' := [some (.ref 0), some (.int a1)]) (st' := [.long (0 : Int64)]) (s' := s560) rfl ?_
    exact wpc_ret rfl rfl (fun q => absurd q (by decide)) rfl ⟨(0 : Int64), rfl, h564⟩
  · have h565 := h562.2 hc563
    refine wpc_sl (n := 3) (c' := 11) (pc' := 15) (ls' := [some (.ref 0), some (.int a1)]) (st' := [.int a1, .ref 8]) (s' := s560) rfl ?_
    refine wpc_ldaJ (a := 7) (N := 7) (v := (gL s560 8 (ix a1))) rfl rfl (by decide) h565.1 rfl ?_
    have h566 := h565.2
    exact wpc_ret rfl rfl (fun q => absurd q (by decide)) rfl ⟨(gL s560 8 (ix a1)), rfl, h566⟩
theorem l0_in (a0 : Int32) (a1 : Int32) (a2 : Int32) (a3 : Int32) (a4 : Int32) (a5 : Int32)  (Q : Int32 → Wd → Prop) (h : calV PP 0 0 [.ref 0, .int (3 : Int32), .int (1 : Int32)] s0 (fun s1 => calI PP 2 11 [.ref 0, .int (0 : Int32), .int (a0 &&& (1 : Int32)), .int a4, .int a5] s1 (fun v4 s3 => ((v4 = (0 : Int32)) → Q (0 : Int32) (W1 s3)) ∧ (¬ (v4 = (0 : Int32)) → calI PP 2 11 [.ref 0, .int (1 : Int32), .int (a1 &&& (1 : Int32)), .int a4, .int a5] s3 (fun v10 s9 => ((v10 = (0 : Int32)) → Q (0 : Int32) (W1 s9)) ∧ (¬ (v10 = (0 : Int32)) → calI PP 2 11 [.ref 0, .int (2 : Int32), .int (a2 &&& (1 : Int32)), .int a4, .int a5] s9 (fun v16 s15 => ((v16 = (0 : Int32)) → Q (0 : Int32) (W1 s15)) ∧ (¬ (v16 = (0 : Int32)) → calI PP 2 11 [.ref 0, .int (3 : Int32), .int (a3 &&& (1 : Int32)), .int a4, .int a5] s15 (fun v22 s21 => ((v22 = (0 : Int32)) → Q (0 : Int32) (W1 s21)) ∧ (¬ (v22 = (0 : Int32)) → calI PP 3 11 [.ref 0, .int (15 : Int32), .int (15 : Int32), .int (1 : Int32), .int (0 : Int32)] s21 (fun v28 s27 => ((v28 = (16 : Int32)) → calI PP 3 11 [.ref 0, .int (15 : Int32), .int (15 : Int32), .int (1 : Int32), .int (1 : Int32)] s27 (fun v34 s33 => ((v34 = (16 : Int32)) → ∀ m39, m39 = (if ((((a0 &&& (1 : Int32)) + (a1 &&& (1 : Int32))) + (a2 &&& (1 : Int32))) + (a3 &&& (1 : Int32))) = (0 : Int32) then (0 : Int32) else (if ((((a0 &&& (1 : Int32)) + (a1 &&& (1 : Int32))) + (a2 &&& (1 : Int32))) + (a3 &&& (1 : Int32))) = (4 : Int32) then (1 : Int32) else (2 : Int32))) → (∀ m42, m42 = (if m39 = (2 : Int32) then (-1 : Int32) else m39) → (∀ m45, m45 = (if m39 = (2 : Int32) then (0 : Int32) else (1 : Int32)) → (∀ m48, m48 = (if m39 = (2 : Int32) then (Int64.toInt32 (XT.ushrL (((((Int32.toInt64 a4) <<< (((32 : Int32)).toInt64 &&& 63)) ||| ((Int32.toInt64 a5) &&& (4294967295 : Int64))) * (6364136223846793005 : Int64)) + (1442695040888963407 : Int64)) (63 : Int32))) else m39) → (∀ m51, m51 = (if m39 = (2 : Int32) then (1 : Int32) else (0 : Int32)) → (∀ m54, m54 = (if m39 = (2 : Int32) then (((((Int32.toInt64 a4) <<< (((32 : Int32)).toInt64 &&& 63)) ||| ((Int32.toInt64 a5) &&& (4294967295 : Int64))) * (6364136223846793005 : Int64)) + (1442695040888963407 : Int64)) else (((Int32.toInt64 a4) <<< (((32 : Int32)).toInt64 &&& 63)) ||| ((Int32.toInt64 a5) &&& (4294967295 : Int64)))) → (wplI PP QQ none 0 lm0 287 [none, none, none, none, none, none, some (.ref 1), none, none, none, none, none, none, none, some (.int m39), none, none, none, none, none, some (.int m42), some (.int m45), some (.int m48), some (.int m51), some (.long m54), none, some (.int (0 : Int32)), none, none, none, none, none, none, none, none] [] (W1 s33) Q))))))) ∧ (¬ (v34 = (16 : Int32)) → Q (0 : Int32) (W1 s33)))) ∧ (¬ (v28 = (16 : Int32)) → Q (0 : Int32) (W1 s27))))))))))))) : lalI PP QQ none 0 [.int a0, .int a1, .int a2, .int a3, .int a4, .int a5] W0 Q := by
  refine lal_of (me := lm0) (ls := [some (.int a0), some (.int a1), some (.int a2), some (.int a3), some (.int a4), some (.int a5), none, none, none, none, none, none, none, none, none, none, none, none, none, none, none, none, none, none, none, none, none, none, none, none, none, none, none, none, none]) rfl (Nat.le_of_ble_eq_true rfl) rfl ?_
  refine wpl_new0 rfl rfl (by decide) (by decide) ?_
  refine wpl_sl (n := 3) (pc' := 6) (ls' := [some (.int a0), some (.int a1), some (.int a2), some (.int a3), some (.int a4), some (.int a5), none, none, none, none, none, none, none, none, none, none, none, none, none, none, none, none, none, none, none, none, none, none, none, none, none, none, none, none, none]) (st' := [.int (1 : Int32), .int (3 : Int32), .ref 1, .ref 1]) rfl ?_
  refine wpl_ctor0 (me' := cm0) (as := [.int (3 : Int32), .int (1 : Int32)]) (r := [.ref 1]) rfl rfl rfl rfl rfl ⟨by decide, by decide, rfl, by decide, by decide⟩ (calV.mono h fun s1 h2 => ?_)
  refine wpl_sl (n := 5) (pc' := 16) (ls' := [some (.int a0), some (.int a1), some (.int a2), some (.int a3), some (.int a4), some (.int a5), some (.ref 1), some (.int (a0 &&& (1 : Int32))), none, none, none, none, none, none, none, none, none, none, none, none, none, none, none, none, none, none, none, none, none, none, none, none, none, none, none]) (st' := []) rfl ?_
  refine wpl_sl (n := 5) (pc' := 22) (ls' := [some (.int a0), some (.int a1), some (.int a2), some (.int a3), some (.int a4), some (.int a5), some (.ref 1), some (.int (a0 &&& (1 : Int32))), some (.int (a1 &&& (1 : Int32))), none, none, none, none, none, none, none, none, none, none, none, none, none, none, none, none, none, none, none, none, none, none, none, none, none, none]) (st' := [.int a2]) rfl ?_
  refine wpl_sl (n := 5) (pc' := 28) (ls' := [some (.int a0), some (.int a1), some (.int a2), some (.int a3), some (.int a4), some (.int a5), some (.ref 1), some (.int (a0 &&& (1 : Int32))), some (.int (a1 &&& (1 : Int32))), some (.int (a2 &&& (1 : Int32))), none, none, none, none, none, none, none, none, none, none, none, none, none, none, none, none, none, none, none, none, none, none, none, none, none]) (st' := [.int (1 : Int32), .int a3]) rfl ?_
  refine wpl_sl (n := 5) (pc' := 36) (ls' := [some (.int a0), some (.int a1), some (.int a2), some (.int a3), some (.int a4), some (.int a5), some (.ref 1), some (.int (a0 &&& (1 : Int32))), some (.int (a1 &&& (1 : Int32))), some (.int (a2 &&& (1 : Int32))), some (.int (a3 &&& (1 : Int32))), none, none, none, none, none, none, none, none, none, none, none, none, none, none, none, none, none, none, none, none, none, none, none, none]) (st' := [.int (a0 &&& (1 : Int32)), .int (0 : Int32), .ref 1]) rfl ?_
  refine wpl_sl (n := 2) (pc' := 40) (ls' := [some (.int a0), some (.int a1), some (.int a2), some (.int a3), some (.int a4), some (.int a5), some (.ref 1), some (.int (a0 &&& (1 : Int32))), some (.int (a1 &&& (1 : Int32))), some (.int (a2 &&& (1 : Int32))), some (.int (a3 &&& (1 : Int32))), none, none, none, none, none, none, none, none, none, none, none, none, none, none, none, none, none, none, none, none, none, none, none, none]) (st' := [.int a5, .int a4, .int (a0 &&& (1 : Int32)), .int (0 : Int32), .ref 1]) rfl ?_
  refine wpl_v1 (m' := 2) (me' := cm2) (as := [.int (0 : Int32), .int (a0 &&& (1 : Int32)), .int a4, .int a5]) (r := []) rfl rfl rfl rfl rfl ⟨by decide, (by first | decide | exact Nat.le_of_ble_eq_true rfl), (by first | decide | exact Nat.le_of_ble_eq_true rfl), rfl⟩ (cal_I (calI.mono h2 fun v4 s3 h5 => ?_))
  refine wpl_if (a := 48) (b := 46) rfl (by decide) rfl rfl (wpl_br (p := v4 = (0 : Int32)) ⟨fun hc6 => ?_, fun hc6 => ?_⟩)
  · have h7 := h5.1 hc6
    refine wpl_sl (n := 1) (pc' := 47) (ls' := [some (.int a0), some (.int a1), some (.int a2), some (.int a3), some (.int a4), some (.int a5), some (.ref 1), some (.int (a0 &&& (1 : Int32))), some (.int (a1 &&& (1 : Int32))), some (.int (a2 &&& (1 : Int32))), some (.int (a3 &&& (1 : Int32))), none, none, none, none, none, none, none, none, none, none, none, none, none, none, none, none, none, none, none, none, none, none, none, none]) (st' := [.int (0 : Int32)]) rfl ?_
    exact wpl_ret rfl rfl rfl ⟨(0 : Int32), rfl, h7⟩
  · have h8 := h5.2 hc6
    refine wpl_sl (n := 5) (pc' := 57) (ls' := [some (.int a0), some (.int a1), some (.int a2), some (.int a3), some (.int a4), some (.int a5), some (.ref 1), some (.int (a0 &&& (1 : Int32))), some (.int (a1 &&& (1 : Int32))), some (.int (a2 &&& (1 : Int32))), some (.int (a3 &&& (1 : Int32))), none, none, none, none, none, none, none, none, none, none, none, none, none, none, none, none, none, none, none, none, none, none, none, none]) (st' := [.int a5, .int a4, .int (a1 &&& (1 : Int32)), .int (1 : Int32), .ref 1]) rfl ?_
    refine wpl_v1 (m' := 2) (me' := cm2) (as := [.int (1 : Int32), .int (a1 &&& (1 : Int32)), .int a4, .int a5]) (r := []) rfl rfl rfl rfl rfl ⟨by decide, (by first | decide | exact Nat.le_of_ble_eq_true rfl), (by first | decide | exact Nat.le_of_ble_eq_true rfl), rfl⟩ (cal_I (calI.mono h8 fun v10 s9 h11 => ?_))
    refine wpl_if (a := 65) (b := 63) rfl (by decide) rfl rfl (wpl_br (p := v10 = (0 : Int32)) ⟨fun hc12 => ?_, fun hc12 => ?_⟩)
    · have h13 := h11.1 hc12
      refine wpl_sl (n := 1) (pc' := 64) (ls' := [some (.int a0), some (.int a1), some (.int a2), some (.int a3), some (.int a4), some (.int a5), some (.ref 1), some (.int (a0 &&& (1 : Int32))), some (.int (a1 &&& (1 : Int32))), some (.int (a2 &&& (1 : Int32))), some (.int (a3 &&& (1 : Int32))), none, none, none, none, none, none, none, none, none, none, none, none, none, none, none, none, none, none, none, none, none, none, none, none]) (st' := [.int (0 : Int32)]) rfl ?_
      exact wpl_ret rfl rfl rfl ⟨(0 : Int32), rfl, h13⟩
    · have h14 := h11.2 hc12
      refine wpl_sl (n := 5) (pc' := 74) (ls' := [some (.int a0), some (.int a1), some (.int a2), some (.int a3), some (.int a4), some (.int a5), some (.ref 1), some (.int (a0 &&& (1 : Int32))), some (.int (a1 &&& (1 : Int32))), some (.int (a2 &&& (1 : Int32))), some (.int (a3 &&& (1 : Int32))), none, none, none, none, none, none, none, none, none, none, none, none, none, none, none, none, none, none, none, none, none, none, none, none]) (st' := [.int a5, .int a4, .int (a2 &&& (1 : Int32)), .int (2 : Int32), .ref 1]) rfl ?_
      refine wpl_v1 (m' := 2) (me' := cm2) (as := [.int (2 : Int32), .int (a2 &&& (1 : Int32)), .int a4, .int a5]) (r := []) rfl rfl rfl rfl rfl ⟨by decide, (by first | decide | exact Nat.le_of_ble_eq_true rfl), (by first | decide | exact Nat.le_of_ble_eq_true rfl), rfl⟩ (cal_I (calI.mono h14 fun v16 s15 h17 => ?_))
      refine wpl_if (a := 82) (b := 80) rfl (by decide) rfl rfl (wpl_br (p := v16 = (0 : Int32)) ⟨fun hc18 => ?_, fun hc18 => ?_⟩)
      · have h19 := h17.1 hc18
        refine wpl_sl (n := 1) (pc' := 81) (ls' := [some (.int a0), some (.int a1), some (.int a2), some (.int a3), some (.int a4), some (.int a5), some (.ref 1), some (.int (a0 &&& (1 : Int32))), some (.int (a1 &&& (1 : Int32))), some (.int (a2 &&& (1 : Int32))), some (.int (a3 &&& (1 : Int32))), none, none, none, none, none, none, none, none, none, none, none, none, none, none, none, none, none, none, none, none, none, none, none, none]) (st' := [.int (0 : Int32)]) rfl ?_
        exact wpl_ret rfl rfl rfl ⟨(0 : Int32), rfl, h19⟩
      · have h20 := h17.2 hc18
        refine wpl_sl (n := 5) (pc' := 91) (ls' := [some (.int a0), some (.int a1), some (.int a2), some (.int a3), some (.int a4), some (.int a5), some (.ref 1), some (.int (a0 &&& (1 : Int32))), some (.int (a1 &&& (1 : Int32))), some (.int (a2 &&& (1 : Int32))), some (.int (a3 &&& (1 : Int32))), none, none, none, none, none, none, none, none, none, none, none, none, none, none, none, none, none, none, none, none, none, none, none, none]) (st' := [.int a5, .int a4, .int (a3 &&& (1 : Int32)), .int (3 : Int32), .ref 1]) rfl ?_
        refine wpl_v1 (m' := 2) (me' := cm2) (as := [.int (3 : Int32), .int (a3 &&& (1 : Int32)), .int a4, .int a5]) (r := []) rfl rfl rfl rfl rfl ⟨by decide, (by first | decide | exact Nat.le_of_ble_eq_true rfl), (by first | decide | exact Nat.le_of_ble_eq_true rfl), rfl⟩ (cal_I (calI.mono h20 fun v22 s21 h23 => ?_))
        refine wpl_if (a := 99) (b := 97) rfl (by decide) rfl rfl (wpl_br (p := v22 = (0 : Int32)) ⟨fun hc24 => ?_, fun hc24 => ?_⟩)
        · have h25 := h23.1 hc24
          refine wpl_sl (n := 1) (pc' := 98) (ls' := [some (.int a0), some (.int a1), some (.int a2), some (.int a3), some (.int a4), some (.int a5), some (.ref 1), some (.int (a0 &&& (1 : Int32))), some (.int (a1 &&& (1 : Int32))), some (.int (a2 &&& (1 : Int32))), some (.int (a3 &&& (1 : Int32))), none, none, none, none, none, none, none, none, none, none, none, none, none, none, none, none, none, none, none, none, none, none, none, none]) (st' := [.int (0 : Int32)]) rfl ?_
          exact wpl_ret rfl rfl rfl ⟨(0 : Int32), rfl, h25⟩
        · have h26 := h23.2 hc24
          refine wpl_sl (n := 5) (pc' := 107) (ls' := [some (.int a0), some (.int a1), some (.int a2), some (.int a3), some (.int a4), some (.int a5), some (.ref 1), some (.int (a0 &&& (1 : Int32))), some (.int (a1 &&& (1 : Int32))), some (.int (a2 &&& (1 : Int32))), some (.int (a3 &&& (1 : Int32))), none, none, none, none, none, none, none, none, none, none, none, none, none, none, none, none, none, none, none, none, none, none, none, none]) (st' := [.int (0 : Int32), .int (1 : Int32), .int (15 : Int32), .int (15 : Int32), .ref 1]) rfl ?_
          refine wpl_v1 (m' := 3) (me' := cm3) (as := [.int (15 : Int32), .int (15 : Int32), .int (1 : Int32), .int (0 : Int32)]) (r := []) rfl rfl rfl rfl rfl ⟨by decide, (by first | decide | exact Nat.le_of_ble_eq_true rfl), (by first | decide | exact Nat.le_of_ble_eq_true rfl), rfl⟩ (cal_I (calI.mono h26 fun v28 s27 h29 => ?_))
          refine wpl_sl (n := 3) (pc' := 116) (ls' := [some (.int a0), some (.int a1), some (.int a2), some (.int a3), some (.int a4), some (.int a5), some (.ref 1), some (.int (a0 &&& (1 : Int32))), some (.int (a1 &&& (1 : Int32))), some (.int (a2 &&& (1 : Int32))), some (.int (a3 &&& (1 : Int32))), some (.int v28), none, none, none, none, none, none, none, none, none, none, none, none, none, none, none, none, none, none, none, none, none, none, none]) (st' := [.int (16 : Int32), .int v28]) rfl ?_
          refine wpl_icmp (a := 121) (b := 119) rfl (by decide) rfl rfl (wpl_br (p := v28 = (16 : Int32)) ⟨fun hc30 => ?_, fun hc30 => ?_⟩)
          · have h31 := h29.1 hc30
            refine wpl_sl (n := 5) (pc' := 129) (ls' := [some (.int a0), some (.int a1), some (.int a2), some (.int a3), some (.int a4), some (.int a5), some (.ref 1), some (.int (a0 &&& (1 : Int32))), some (.int (a1 &&& (1 : Int32))), some (.int (a2 &&& (1 : Int32))), some (.int (a3 &&& (1 : Int32))), some (.int v28), none, none, none, none, none, none, none, none, none, none, none, none, none, none, none, none, none, none, none, none, none, none, none]) (st' := [.int (1 : Int32), .int (1 : Int32), .int (15 : Int32), .int (15 : Int32), .ref 1]) rfl ?_
            refine wpl_v1 (m' := 3) (me' := cm3) (as := [.int (15 : Int32), .int (15 : Int32), .int (1 : Int32), .int (1 : Int32)]) (r := []) rfl rfl rfl rfl rfl ⟨by decide, (by first | decide | exact Nat.le_of_ble_eq_true rfl), (by first | decide | exact Nat.le_of_ble_eq_true rfl), rfl⟩ (cal_I (calI.mono h31 fun v34 s33 h35 => ?_))
            refine wpl_sl (n := 3) (pc' := 138) (ls' := [some (.int a0), some (.int a1), some (.int a2), some (.int a3), some (.int a4), some (.int a5), some (.ref 1), some (.int (a0 &&& (1 : Int32))), some (.int (a1 &&& (1 : Int32))), some (.int (a2 &&& (1 : Int32))), some (.int (a3 &&& (1 : Int32))), some (.int v28), some (.int v34), none, none, none, none, none, none, none, none, none, none, none, none, none, none, none, none, none, none, none, none, none, none]) (st' := [.int (16 : Int32), .int v34]) rfl ?_
            refine wpl_icmp (a := 143) (b := 141) rfl (by decide) rfl rfl (wpl_br (p := v34 = (16 : Int32)) ⟨fun hc36 => ?_, fun hc36 => ?_⟩)
            · have h37 := h35.1 hc36
              refine wpl_sl (n := 5) (pc' := 151) (ls' := [some (.int a0), some (.int a1), some (.int a2), some (.int a3), some (.int a4), some (.int a5), some (.ref 1), some (.int (a0 &&& (1 : Int32))), some (.int (a1 &&& (1 : Int32))), some (.int (a2 &&& (1 : Int32))), some (.int (a3 &&& (1 : Int32))), some (.int v28), some (.int v34), none, none, none, none, none, none, none, none, none, none, none, none, none, none, none, none, none, none, none, none, none, none]) (st' := [.int (((a0 &&& (1 : Int32)) + (a1 &&& (1 : Int32))) + (a2 &&& (1 : Int32)))]) rfl ?_
              refine wpl_sl (n := 4) (pc' := 158) (ls' := [some (.int a0), some (.int a1), some (.int a2), some (.int a3), some (.int a4), some (.int a5), some (.ref 1), some (.int (a0 &&& (1 : Int32))), some (.int (a1 &&& (1 : Int32))), some (.int (a2 &&& (1 : Int32))), some (.int (a3 &&& (1 : Int32))), some (.int v28), some (.int v34), some (.int ((((a0 &&& (1 : Int32)) + (a1 &&& (1 : Int32))) + (a2 &&& (1 : Int32))) + (a3 &&& (1 : Int32)))), none, none, none, none, none, none, none, none, none, none, none, none, none, none, none, none, none, none, none, none, none]) (st' := [.int ((((a0 &&& (1 : Int32)) + (a1 &&& (1 : Int32))) + (a2 &&& (1 : Int32))) + (a3 &&& (1 : Int32)))]) rfl ?_
              have hm40 : ∀ m39, m39 = (if ((((a0 &&& (1 : Int32)) + (a1 &&& (1 : Int32))) + (a2 &&& (1 : Int32))) + (a3 &&& (1 : Int32))) = (0 : Int32) then (0 : Int32) else (if ((((a0 &&& (1 : Int32)) + (a1 &&& (1 : Int32))) + (a2 &&& (1 : Int32))) + (a3 &&& (1 : Int32))) = (4 : Int32) then (1 : Int32) else (2 : Int32))) → wplI PP QQ none 0 lm0 176 [some (.int a0), some (.int a1), some (.int a2), some (.int a3), some (.int a4), some (.int a5), some (.ref 1), some (.int (a0 &&& (1 : Int32))), some (.int (a1 &&& (1 : Int32))), some (.int (a2 &&& (1 : Int32))), some (.int (a3 &&& (1 : Int32))), some (.int v28), some (.int v34), some (.int ((((a0 &&& (1 : Int32)) + (a1 &&& (1 : Int32))) + (a2 &&& (1 : Int32))) + (a3 &&& (1 : Int32)))), none, none, none, none, none, none, none, none, none, none, none, none, none, none, none, none, none, none, none, none, none] [.int m39] (W1 s33) Q := by
                intro m39 em39
                have h41 := h37 m39 em39
                refine wpl_sl (n := 5) (pc' := 184) (ls' := [some (.int a0), some (.int a1), some (.int a2), some (.int a3), some (.int a4), some (.int a5), some (.ref 1), some (.int (a0 &&& (1 : Int32))), some (.int (a1 &&& (1 : Int32))), some (.int (a2 &&& (1 : Int32))), some (.int (a3 &&& (1 : Int32))), some (.int v28), some (.int v34), some (.int ((((a0 &&& (1 : Int32)) + (a1 &&& (1 : Int32))) + (a2 &&& (1 : Int32))) + (a3 &&& (1 : Int32)))), some (.int m39), none, none, none, none, none, none, none, none, none, none, none, none, none, none, none, none, none, none, none, none]) (st' := [.long ((Int32.toInt64 a4) <<< (((32 : Int32)).toInt64 &&& 63))]) rfl ?_
                refine wpl_sl (n := 5) (pc' := 192) (ls' := [some (.int a0), some (.int a1), some (.int a2), some (.int a3), some (.int a4), some (.int a5), some (.ref 1), some (.int (a0 &&& (1 : Int32))), some (.int (a1 &&& (1 : Int32))), some (.int (a2 &&& (1 : Int32))), some (.int (a3 &&& (1 : Int32))), some (.int v28), some (.int v34), some (.int ((((a0 &&& (1 : Int32)) + (a1 &&& (1 : Int32))) + (a2 &&& (1 : Int32))) + (a3 &&& (1 : Int32)))), some (.int m39), none, none, none, none, none, none, none, none, none, none, none, none, none, none, none, none, none, none, none, none]) (st' := [.long (((Int32.toInt64 a4) <<< (((32 : Int32)).toInt64 &&& 63)) ||| ((Int32.toInt64 a5) &&& (4294967295 : Int64)))]) rfl ?_
                refine wpl_sl (n := 5) (pc' := 203) (ls' := [some (.int a0), some (.int a1), some (.int a2), some (.int a3), some (.int a4), some (.int a5), some (.ref 1), some (.int (a0 &&& (1 : Int32))), some (.int (a1 &&& (1 : Int32))), some (.int (a2 &&& (1 : Int32))), some (.int (a3 &&& (1 : Int32))), some (.int v28), some (.int v34), some (.int ((((a0 &&& (1 : Int32)) + (a1 &&& (1 : Int32))) + (a2 &&& (1 : Int32))) + (a3 &&& (1 : Int32)))), some (.int m39), some (.long (((Int32.toInt64 a4) <<< (((32 : Int32)).toInt64 &&& 63)) ||| ((Int32.toInt64 a5) &&& (4294967295 : Int64)))), none, none, none, none, none, none, none, none, none, none, none, none, none, none, none, none, none, none, none]) (st' := [.long (1442695040888963407 : Int64), .long ((((Int32.toInt64 a4) <<< (((32 : Int32)).toInt64 &&& 63)) ||| ((Int32.toInt64 a5) &&& (4294967295 : Int64))) * (6364136223846793005 : Int64))]) rfl ?_
                refine wpl_sl (n := 5) (pc' := 211) (ls' := [some (.int a0), some (.int a1), some (.int a2), some (.int a3), some (.int a4), some (.int a5), some (.ref 1), some (.int (a0 &&& (1 : Int32))), some (.int (a1 &&& (1 : Int32))), some (.int (a2 &&& (1 : Int32))), some (.int (a3 &&& (1 : Int32))), some (.int v28), some (.int v34), some (.int ((((a0 &&& (1 : Int32)) + (a1 &&& (1 : Int32))) + (a2 &&& (1 : Int32))) + (a3 &&& (1 : Int32)))), some (.int m39), some (.long (((Int32.toInt64 a4) <<< (((32 : Int32)).toInt64 &&& 63)) ||| ((Int32.toInt64 a5) &&& (4294967295 : Int64)))), none, some (.long (((((Int32.toInt64 a4) <<< (((32 : Int32)).toInt64 &&& 63)) ||| ((Int32.toInt64 a5) &&& (4294967295 : Int64))) * (6364136223846793005 : Int64)) + (1442695040888963407 : Int64))), none, none, none, none, none, none, none, none, none, none, none, none, none, none, none, none, none]) (st' := [.long (XT.ushrL (((((Int32.toInt64 a4) <<< (((32 : Int32)).toInt64 &&& 63)) ||| ((Int32.toInt64 a5) &&& (4294967295 : Int64))) * (6364136223846793005 : Int64)) + (1442695040888963407 : Int64)) (63 : Int32))]) rfl ?_
                refine wpl_sl (n := 4) (pc' := 217) (ls' := [some (.int a0), some (.int a1), some (.int a2), some (.int a3), some (.int a4), some (.int a5), some (.ref 1), some (.int (a0 &&& (1 : Int32))), some (.int (a1 &&& (1 : Int32))), some (.int (a2 &&& (1 : Int32))), some (.int (a3 &&& (1 : Int32))), some (.int v28), some (.int v34), some (.int ((((a0 &&& (1 : Int32)) + (a1 &&& (1 : Int32))) + (a2 &&& (1 : Int32))) + (a3 &&& (1 : Int32)))), some (.int m39), some (.long (((Int32.toInt64 a4) <<< (((32 : Int32)).toInt64 &&& 63)) ||| ((Int32.toInt64 a5) &&& (4294967295 : Int64)))), none, some (.long (((((Int32.toInt64 a4) <<< (((32 : Int32)).toInt64 &&& 63)) ||| ((Int32.toInt64 a5) &&& (4294967295 : Int64))) * (6364136223846793005 : Int64)) + (1442695040888963407 : Int64))), none, some (.int (Int64.toInt32 (XT.ushrL (((((Int32.toInt64 a4) <<< (((32 : Int32)).toInt64 &&& 63)) ||| ((Int32.toInt64 a5) &&& (4294967295 : Int64))) * (6364136223846793005 : Int64)) + (1442695040888963407 : Int64)) (63 : Int32)))), none, none, none, none, none, none, none, none, none, none, none, none, none, none, none]) (st' := [.int (2 : Int32), .int m39]) rfl ?_
                have hm43 : ∀ m42, m42 = (if m39 = (2 : Int32) then (-1 : Int32) else m39) → wplI PP QQ none 0 lm0 226 [some (.int a0), some (.int a1), some (.int a2), some (.int a3), some (.int a4), some (.int a5), some (.ref 1), some (.int (a0 &&& (1 : Int32))), some (.int (a1 &&& (1 : Int32))), some (.int (a2 &&& (1 : Int32))), some (.int (a3 &&& (1 : Int32))), some (.int v28), some (.int v34), some (.int ((((a0 &&& (1 : Int32)) + (a1 &&& (1 : Int32))) + (a2 &&& (1 : Int32))) + (a3 &&& (1 : Int32)))), some (.int m39), some (.long (((Int32.toInt64 a4) <<< (((32 : Int32)).toInt64 &&& 63)) ||| ((Int32.toInt64 a5) &&& (4294967295 : Int64)))), none, some (.long (((((Int32.toInt64 a4) <<< (((32 : Int32)).toInt64 &&& 63)) ||| ((Int32.toInt64 a5) &&& (4294967295 : Int64))) * (6364136223846793005 : Int64)) + (1442695040888963407 : Int64))), none, some (.int (Int64.toInt32 (XT.ushrL (((((Int32.toInt64 a4) <<< (((32 : Int32)).toInt64 &&& 63)) ||| ((Int32.toInt64 a5) &&& (4294967295 : Int64))) * (6364136223846793005 : Int64)) + (1442695040888963407 : Int64)) (63 : Int32)))), none, none, none, none, none, none, none, none, none, none, none, none, none, none, none] [.int m42] (W1 s33) Q := by
                  intro m42 em42
                  have h44 := h41 m42 em42
                  refine wpl_sl (n := 3) (pc' := 231) (ls' := [some (.int a0), some (.int a1), some (.int a2), some (.int a3), some (.int a4), some (.int a5), some (.ref 1), some (.int (a0 &&& (1 : Int32))), some (.int (a1 &&& (1 : Int32))), some (.int (a2 &&& (1 : Int32))), some (.int (a3 &&& (1 : Int32))), some (.int v28), some (.int v34), some (.int ((((a0 &&& (1 : Int32)) + (a1 &&& (1 : Int32))) + (a2 &&& (1 : Int32))) + (a3 &&& (1 : Int32)))), some (.int m39), some (.long (((Int32.toInt64 a4) <<< (((32 : Int32)).toInt64 &&& 63)) ||| ((Int32.toInt64 a5) &&& (4294967295 : Int64)))), none, some (.long (((((Int32.toInt64 a4) <<< (((32 : Int32)).toInt64 &&& 63)) ||| ((Int32.toInt64 a5) &&& (4294967295 : Int64))) * (6364136223846793005 : Int64)) + (1442695040888963407 : Int64))), none, some (.int (Int64.toInt32 (XT.ushrL (((((Int32.toInt64 a4) <<< (((32 : Int32)).toInt64 &&& 63)) ||| ((Int32.toInt64 a5) &&& (4294967295 : Int64))) * (6364136223846793005 : Int64)) + (1442695040888963407 : Int64)) (63 : Int32)))), some (.int m42), none, none, none, none, none, none, none, none, none, none, none, none, none, none]) (st' := [.int (2 : Int32), .int m39]) rfl ?_
                  have hm46 : ∀ m45, m45 = (if m39 = (2 : Int32) then (0 : Int32) else (1 : Int32)) → wplI PP QQ none 0 lm0 239 [some (.int a0), some (.int a1), some (.int a2), some (.int a3), some (.int a4), some (.int a5), some (.ref 1), some (.int (a0 &&& (1 : Int32))), some (.int (a1 &&& (1 : Int32))), some (.int (a2 &&& (1 : Int32))), some (.int (a3 &&& (1 : Int32))), some (.int v28), some (.int v34), some (.int ((((a0 &&& (1 : Int32)) + (a1 &&& (1 : Int32))) + (a2 &&& (1 : Int32))) + (a3 &&& (1 : Int32)))), some (.int m39), some (.long (((Int32.toInt64 a4) <<< (((32 : Int32)).toInt64 &&& 63)) ||| ((Int32.toInt64 a5) &&& (4294967295 : Int64)))), none, some (.long (((((Int32.toInt64 a4) <<< (((32 : Int32)).toInt64 &&& 63)) ||| ((Int32.toInt64 a5) &&& (4294967295 : Int64))) * (6364136223846793005 : Int64)) + (1442695040888963407 : Int64))), none, some (.int (Int64.toInt32 (XT.ushrL (((((Int32.toInt64 a4) <<< (((32 : Int32)).toInt64 &&& 63)) ||| ((Int32.toInt64 a5) &&& (4294967295 : Int64))) * (6364136223846793005 : Int64)) + (1442695040888963407 : Int64)) (63 : Int32)))), some (.int m42), none, none, none, none, none, none, none, none, none, none, none, none, none, none] [.int m45] (W1 s33) Q := by
                    intro m45 em45
                    have h47 := h44 m45 em45
                    refine wpl_sl (n := 3) (pc' := 244) (ls' := [some (.int a0), some (.int a1), some (.int a2), some (.int a3), some (.int a4), some (.int a5), some (.ref 1), some (.int (a0 &&& (1 : Int32))), some (.int (a1 &&& (1 : Int32))), some (.int (a2 &&& (1 : Int32))), some (.int (a3 &&& (1 : Int32))), some (.int v28), some (.int v34), some (.int ((((a0 &&& (1 : Int32)) + (a1 &&& (1 : Int32))) + (a2 &&& (1 : Int32))) + (a3 &&& (1 : Int32)))), some (.int m39), some (.long (((Int32.toInt64 a4) <<< (((32 : Int32)).toInt64 &&& 63)) ||| ((Int32.toInt64 a5) &&& (4294967295 : Int64)))), none, some (.long (((((Int32.toInt64 a4) <<< (((32 : Int32)).toInt64 &&& 63)) ||| ((Int32.toInt64 a5) &&& (4294967295 : Int64))) * (6364136223846793005 : Int64)) + (1442695040888963407 : Int64))), none, some (.int (Int64.toInt32 (XT.ushrL (((((Int32.toInt64 a4) <<< (((32 : Int32)).toInt64 &&& 63)) ||| ((Int32.toInt64 a5) &&& (4294967295 : Int64))) * (6364136223846793005 : Int64)) + (1442695040888963407 : Int64)) (63 : Int32)))), some (.int m42), some (.int m45), none, none, none, none, none, none, none, none, none, none, none, none, none]) (st' := [.int (2 : Int32), .int m39]) rfl ?_
                    have hm49 : ∀ m48, m48 = (if m39 = (2 : Int32) then (Int64.toInt32 (XT.ushrL (((((Int32.toInt64 a4) <<< (((32 : Int32)).toInt64 &&& 63)) ||| ((Int32.toInt64 a5) &&& (4294967295 : Int64))) * (6364136223846793005 : Int64)) + (1442695040888963407 : Int64)) (63 : Int32))) else m39) → wplI PP QQ none 0 lm0 254 [some (.int a0), some (.int a1), some (.int a2), some (.int a3), some (.int a4), some (.int a5), some (.ref 1), some (.int (a0 &&& (1 : Int32))), some (.int (a1 &&& (1 : Int32))), some (.int (a2 &&& (1 : Int32))), some (.int (a3 &&& (1 : Int32))), some (.int v28), some (.int v34), some (.int ((((a0 &&& (1 : Int32)) + (a1 &&& (1 : Int32))) + (a2 &&& (1 : Int32))) + (a3 &&& (1 : Int32)))), some (.int m39), some (.long (((Int32.toInt64 a4) <<< (((32 : Int32)).toInt64 &&& 63)) ||| ((Int32.toInt64 a5) &&& (4294967295 : Int64)))), none, some (.long (((((Int32.toInt64 a4) <<< (((32 : Int32)).toInt64 &&& 63)) ||| ((Int32.toInt64 a5) &&& (4294967295 : Int64))) * (6364136223846793005 : Int64)) + (1442695040888963407 : Int64))), none, some (.int (Int64.toInt32 (XT.ushrL (((((Int32.toInt64 a4) <<< (((32 : Int32)).toInt64 &&& 63)) ||| ((Int32.toInt64 a5) &&& (4294967295 : Int64))) * (6364136223846793005 : Int64)) + (1442695040888963407 : Int64)) (63 : Int32)))), some (.int m42), some (.int m45), none, none, none, none, none, none, none, none, none, none, none, none, none] [.int m48] (W1 s33) Q := by
                      intro m48 em48
                      have h50 := h47 m48 em48
                      refine wpl_sl (n := 3) (pc' := 259) (ls' := [some (.int a0), some (.int a1), some (.int a2), some (.int a3), some (.int a4), some (.int a5), some (.ref 1), some (.int (a0 &&& (1 : Int32))), some (.int (a1 &&& (1 : Int32))), some (.int (a2 &&& (1 : Int32))), some (.int (a3 &&& (1 : Int32))), some (.int v28), some (.int v34), some (.int ((((a0 &&& (1 : Int32)) + (a1 &&& (1 : Int32))) + (a2 &&& (1 : Int32))) + (a3 &&& (1 : Int32)))), some (.int m39), some (.long (((Int32.toInt64 a4) <<< (((32 : Int32)).toInt64 &&& 63)) ||| ((Int32.toInt64 a5) &&& (4294967295 : Int64)))), none, some (.long (((((Int32.toInt64 a4) <<< (((32 : Int32)).toInt64 &&& 63)) ||| ((Int32.toInt64 a5) &&& (4294967295 : Int64))) * (6364136223846793005 : Int64)) + (1442695040888963407 : Int64))), none, some (.int (Int64.toInt32 (XT.ushrL (((((Int32.toInt64 a4) <<< (((32 : Int32)).toInt64 &&& 63)) ||| ((Int32.toInt64 a5) &&& (4294967295 : Int64))) * (6364136223846793005 : Int64)) + (1442695040888963407 : Int64)) (63 : Int32)))), some (.int m42), some (.int m45), some (.int m48), none, none, none, none, none, none, none, none, none, none, none, none]) (st' := [.int (2 : Int32), .int m39]) rfl ?_
                      have hm52 : ∀ m51, m51 = (if m39 = (2 : Int32) then (1 : Int32) else (0 : Int32)) → wplI PP QQ none 0 lm0 267 [some (.int a0), some (.int a1), some (.int a2), some (.int a3), some (.int a4), some (.int a5), some (.ref 1), some (.int (a0 &&& (1 : Int32))), some (.int (a1 &&& (1 : Int32))), some (.int (a2 &&& (1 : Int32))), some (.int (a3 &&& (1 : Int32))), some (.int v28), some (.int v34), some (.int ((((a0 &&& (1 : Int32)) + (a1 &&& (1 : Int32))) + (a2 &&& (1 : Int32))) + (a3 &&& (1 : Int32)))), some (.int m39), some (.long (((Int32.toInt64 a4) <<< (((32 : Int32)).toInt64 &&& 63)) ||| ((Int32.toInt64 a5) &&& (4294967295 : Int64)))), none, some (.long (((((Int32.toInt64 a4) <<< (((32 : Int32)).toInt64 &&& 63)) ||| ((Int32.toInt64 a5) &&& (4294967295 : Int64))) * (6364136223846793005 : Int64)) + (1442695040888963407 : Int64))), none, some (.int (Int64.toInt32 (XT.ushrL (((((Int32.toInt64 a4) <<< (((32 : Int32)).toInt64 &&& 63)) ||| ((Int32.toInt64 a5) &&& (4294967295 : Int64))) * (6364136223846793005 : Int64)) + (1442695040888963407 : Int64)) (63 : Int32)))), some (.int m42), some (.int m45), some (.int m48), none, none, none, none, none, none, none, none, none, none, none, none] [.int m51] (W1 s33) Q := by
                        intro m51 em51
                        have h53 := h50 m51 em51
                        refine wpl_sl (n := 3) (pc' := 272) (ls' := [some (.int a0), some (.int a1), some (.int a2), some (.int a3), some (.int a4), some (.int a5), some (.ref 1), some (.int (a0 &&& (1 : Int32))), some (.int (a1 &&& (1 : Int32))), some (.int (a2 &&& (1 : Int32))), some (.int (a3 &&& (1 : Int32))), some (.int v28), some (.int v34), some (.int ((((a0 &&& (1 : Int32)) + (a1 &&& (1 : Int32))) + (a2 &&& (1 : Int32))) + (a3 &&& (1 : Int32)))), some (.int m39), some (.long (((Int32.toInt64 a4) <<< (((32 : Int32)).toInt64 &&& 63)) ||| ((Int32.toInt64 a5) &&& (4294967295 : Int64)))), none, some (.long (((((Int32.toInt64 a4) <<< (((32 : Int32)).toInt64 &&& 63)) ||| ((Int32.toInt64 a5) &&& (4294967295 : Int64))) * (6364136223846793005 : Int64)) + (1442695040888963407 : Int64))), none, some (.int (Int64.toInt32 (XT.ushrL (((((Int32.toInt64 a4) <<< (((32 : Int32)).toInt64 &&& 63)) ||| ((Int32.toInt64 a5) &&& (4294967295 : Int64))) * (6364136223846793005 : Int64)) + (1442695040888963407 : Int64)) (63 : Int32)))), some (.int m42), some (.int m45), some (.int m48), some (.int m51), none, none, none, none, none, none, none, none, none, none, none]) (st' := [.int (2 : Int32), .int m39]) rfl ?_
                        have hm55 : ∀ m54, m54 = (if m39 = (2 : Int32) then (((((Int32.toInt64 a4) <<< (((32 : Int32)).toInt64 &&& 63)) ||| ((Int32.toInt64 a5) &&& (4294967295 : Int64))) * (6364136223846793005 : Int64)) + (1442695040888963407 : Int64)) else (((Int32.toInt64 a4) <<< (((32 : Int32)).toInt64 &&& 63)) ||| ((Int32.toInt64 a5) &&& (4294967295 : Int64)))) → wplI PP QQ none 0 lm0 282 [some (.int a0), some (.int a1), some (.int a2), some (.int a3), some (.int a4), some (.int a5), some (.ref 1), some (.int (a0 &&& (1 : Int32))), some (.int (a1 &&& (1 : Int32))), some (.int (a2 &&& (1 : Int32))), some (.int (a3 &&& (1 : Int32))), some (.int v28), some (.int v34), some (.int ((((a0 &&& (1 : Int32)) + (a1 &&& (1 : Int32))) + (a2 &&& (1 : Int32))) + (a3 &&& (1 : Int32)))), some (.int m39), some (.long (((Int32.toInt64 a4) <<< (((32 : Int32)).toInt64 &&& 63)) ||| ((Int32.toInt64 a5) &&& (4294967295 : Int64)))), none, some (.long (((((Int32.toInt64 a4) <<< (((32 : Int32)).toInt64 &&& 63)) ||| ((Int32.toInt64 a5) &&& (4294967295 : Int64))) * (6364136223846793005 : Int64)) + (1442695040888963407 : Int64))), none, some (.int (Int64.toInt32 (XT.ushrL (((((Int32.toInt64 a4) <<< (((32 : Int32)).toInt64 &&& 63)) ||| ((Int32.toInt64 a5) &&& (4294967295 : Int64))) * (6364136223846793005 : Int64)) + (1442695040888963407 : Int64)) (63 : Int32)))), some (.int m42), some (.int m45), some (.int m48), some (.int m51), none, none, none, none, none, none, none, none, none, none, none] [.long m54] (W1 s33) Q := by
                          intro m54 em54
                          have h56 := h53 m54 em54
                          refine wpl_sl (n := 3) (pc' := 287) (ls' := [some (.int a0), some (.int a1), some (.int a2), some (.int a3), some (.int a4), some (.int a5), some (.ref 1), some (.int (a0 &&& (1 : Int32))), some (.int (a1 &&& (1 : Int32))), some (.int (a2 &&& (1 : Int32))), some (.int (a3 &&& (1 : Int32))), some (.int v28), some (.int v34), some (.int ((((a0 &&& (1 : Int32)) + (a1 &&& (1 : Int32))) + (a2 &&& (1 : Int32))) + (a3 &&& (1 : Int32)))), some (.int m39), some (.long (((Int32.toInt64 a4) <<< (((32 : Int32)).toInt64 &&& 63)) ||| ((Int32.toInt64 a5) &&& (4294967295 : Int64)))), none, some (.long (((((Int32.toInt64 a4) <<< (((32 : Int32)).toInt64 &&& 63)) ||| ((Int32.toInt64 a5) &&& (4294967295 : Int64))) * (6364136223846793005 : Int64)) + (1442695040888963407 : Int64))), none, some (.int (Int64.toInt32 (XT.ushrL (((((Int32.toInt64 a4) <<< (((32 : Int32)).toInt64 &&& 63)) ||| ((Int32.toInt64 a5) &&& (4294967295 : Int64))) * (6364136223846793005 : Int64)) + (1442695040888963407 : Int64)) (63 : Int32)))), some (.int m42), some (.int m45), some (.int m48), some (.int m51), some (.long m54), none, some (.int (0 : Int32)), none, none, none, none, none, none, none, none]) (st' := []) rfl ?_
                          exact wpl_lle (ls := [none, none, none, none, none, none, some (.ref 1), none, none, none, none, none, none, none, some (.int m39), none, none, none, none, none, some (.int m42), some (.int m45), some (.int m48), some (.int m51), some (.long m54), none, some (.int (0 : Int32)), none, none, none, none, none, none, none, none]) ⟨rfl, rfl, rfl, rfl, rfl, rfl, rfl, rfl, trivial⟩ h56
                        refine wpl_icmp (a := 280) (b := 275) rfl (by decide) rfl rfl (wpl_br (p := m39 = (2 : Int32)) ⟨fun hc57 => ?_, fun hc57 => ?_⟩)
                        · refine wpl_sl (n := 2) (pc' := 282) (ls' := [some (.int a0), some (.int a1), some (.int a2), some (.int a3), some (.int a4), some (.int a5), some (.ref 1), some (.int (a0 &&& (1 : Int32))), some (.int (a1 &&& (1 : Int32))), some (.int (a2 &&& (1 : Int32))), some (.int (a3 &&& (1 : Int32))), some (.int v28), some (.int v34), some (.int ((((a0 &&& (1 : Int32)) + (a1 &&& (1 : Int32))) + (a2 &&& (1 : Int32))) + (a3 &&& (1 : Int32)))), some (.int m39), some (.long (((Int32.toInt64 a4) <<< (((32 : Int32)).toInt64 &&& 63)) ||| ((Int32.toInt64 a5) &&& (4294967295 : Int64)))), none, some (.long (((((Int32.toInt64 a4) <<< (((32 : Int32)).toInt64 &&& 63)) ||| ((Int32.toInt64 a5) &&& (4294967295 : Int64))) * (6364136223846793005 : Int64)) + (1442695040888963407 : Int64))), none, some (.int (Int64.toInt32 (XT.ushrL (((((Int32.toInt64 a4) <<< (((32 : Int32)).toInt64 &&& 63)) ||| ((Int32.toInt64 a5) &&& (4294967295 : Int64))) * (6364136223846793005 : Int64)) + (1442695040888963407 : Int64)) (63 : Int32)))), some (.int m42), some (.int m45), some (.int m48), some (.int m51), none, none, none, none, none, none, none, none, none, none, none]) (st' := [.long (((((Int32.toInt64 a4) <<< (((32 : Int32)).toInt64 &&& 63)) ||| ((Int32.toInt64 a5) &&& (4294967295 : Int64))) * (6364136223846793005 : Int64)) + (1442695040888963407 : Int64))]) rfl ?_
                          first | exact hm55 _ (by simp only [if_pos hc57]) | exact wpl_lle (by repeat (first | exact trivial | refine ⟨rfl, ?_⟩)) (hm55 _ (by simp only [if_pos hc57]))
                        · refine wpl_sl (n := 1) (pc' := 282) (ls' := [some (.int a0), some (.int a1), some (.int a2), some (.int a3), some (.int a4), some (.int a5), some (.ref 1), some (.int (a0 &&& (1 : Int32))), some (.int (a1 &&& (1 : Int32))), some (.int (a2 &&& (1 : Int32))), some (.int (a3 &&& (1 : Int32))), some (.int v28), some (.int v34), some (.int ((((a0 &&& (1 : Int32)) + (a1 &&& (1 : Int32))) + (a2 &&& (1 : Int32))) + (a3 &&& (1 : Int32)))), some (.int m39), some (.long (((Int32.toInt64 a4) <<< (((32 : Int32)).toInt64 &&& 63)) ||| ((Int32.toInt64 a5) &&& (4294967295 : Int64)))), none, some (.long (((((Int32.toInt64 a4) <<< (((32 : Int32)).toInt64 &&& 63)) ||| ((Int32.toInt64 a5) &&& (4294967295 : Int64))) * (6364136223846793005 : Int64)) + (1442695040888963407 : Int64))), none, some (.int (Int64.toInt32 (XT.ushrL (((((Int32.toInt64 a4) <<< (((32 : Int32)).toInt64 &&& 63)) ||| ((Int32.toInt64 a5) &&& (4294967295 : Int64))) * (6364136223846793005 : Int64)) + (1442695040888963407 : Int64)) (63 : Int32)))), some (.int m42), some (.int m45), some (.int m48), some (.int m51), none, none, none, none, none, none, none, none, none, none, none]) (st' := [.long (((Int32.toInt64 a4) <<< (((32 : Int32)).toInt64 &&& 63)) ||| ((Int32.toInt64 a5) &&& (4294967295 : Int64)))]) rfl ?_
                          first | exact hm55 _ (by simp only [if_neg hc57]) | exact wpl_lle (by repeat (first | exact trivial | refine ⟨rfl, ?_⟩)) (hm55 _ (by simp only [if_neg hc57]))
                      refine wpl_icmp (a := 266) (b := 262) rfl (by decide) rfl rfl (wpl_br (p := m39 = (2 : Int32)) ⟨fun hc58 => ?_, fun hc58 => ?_⟩)
                      · refine wpl_sl (n := 2) (pc' := 267) (ls' := [some (.int a0), some (.int a1), some (.int a2), some (.int a3), some (.int a4), some (.int a5), some (.ref 1), some (.int (a0 &&& (1 : Int32))), some (.int (a1 &&& (1 : Int32))), some (.int (a2 &&& (1 : Int32))), some (.int (a3 &&& (1 : Int32))), some (.int v28), some (.int v34), some (.int ((((a0 &&& (1 : Int32)) + (a1 &&& (1 : Int32))) + (a2 &&& (1 : Int32))) + (a3 &&& (1 : Int32)))), some (.int m39), some (.long (((Int32.toInt64 a4) <<< (((32 : Int32)).toInt64 &&& 63)) ||| ((Int32.toInt64 a5) &&& (4294967295 : Int64)))), none, some (.long (((((Int32.toInt64 a4) <<< (((32 : Int32)).toInt64 &&& 63)) ||| ((Int32.toInt64 a5) &&& (4294967295 : Int64))) * (6364136223846793005 : Int64)) + (1442695040888963407 : Int64))), none, some (.int (Int64.toInt32 (XT.ushrL (((((Int32.toInt64 a4) <<< (((32 : Int32)).toInt64 &&& 63)) ||| ((Int32.toInt64 a5) &&& (4294967295 : Int64))) * (6364136223846793005 : Int64)) + (1442695040888963407 : Int64)) (63 : Int32)))), some (.int m42), some (.int m45), some (.int m48), none, none, none, none, none, none, none, none, none, none, none, none]) (st' := [.int (1 : Int32)]) rfl ?_
                        first | exact hm52 _ (by simp only [if_pos hc58]) | exact wpl_lle (by repeat (first | exact trivial | refine ⟨rfl, ?_⟩)) (hm52 _ (by simp only [if_pos hc58]))
                      · refine wpl_sl (n := 1) (pc' := 267) (ls' := [some (.int a0), some (.int a1), some (.int a2), some (.int a3), some (.int a4), some (.int a5), some (.ref 1), some (.int (a0 &&& (1 : Int32))), some (.int (a1 &&& (1 : Int32))), some (.int (a2 &&& (1 : Int32))), some (.int (a3 &&& (1 : Int32))), some (.int v28), some (.int v34), some (.int ((((a0 &&& (1 : Int32)) + (a1 &&& (1 : Int32))) + (a2 &&& (1 : Int32))) + (a3 &&& (1 : Int32)))), some (.int m39), some (.long (((Int32.toInt64 a4) <<< (((32 : Int32)).toInt64 &&& 63)) ||| ((Int32.toInt64 a5) &&& (4294967295 : Int64)))), none, some (.long (((((Int32.toInt64 a4) <<< (((32 : Int32)).toInt64 &&& 63)) ||| ((Int32.toInt64 a5) &&& (4294967295 : Int64))) * (6364136223846793005 : Int64)) + (1442695040888963407 : Int64))), none, some (.int (Int64.toInt32 (XT.ushrL (((((Int32.toInt64 a4) <<< (((32 : Int32)).toInt64 &&& 63)) ||| ((Int32.toInt64 a5) &&& (4294967295 : Int64))) * (6364136223846793005 : Int64)) + (1442695040888963407 : Int64)) (63 : Int32)))), some (.int m42), some (.int m45), some (.int m48), none, none, none, none, none, none, none, none, none, none, none, none]) (st' := [.int (0 : Int32)]) rfl ?_
                        first | exact hm52 _ (by simp only [if_neg hc58]) | exact wpl_lle (by repeat (first | exact trivial | refine ⟨rfl, ?_⟩)) (hm52 _ (by simp only [if_neg hc58]))
                    refine wpl_icmp (a := 252) (b := 247) rfl (by decide) rfl rfl (wpl_br (p := m39 = (2 : Int32)) ⟨fun hc59 => ?_, fun hc59 => ?_⟩)
                    · refine wpl_sl (n := 2) (pc' := 254) (ls' := [some (.int a0), some (.int a1), some (.int a2), some (.int a3), some (.int a4), some (.int a5), some (.ref 1), some (.int (a0 &&& (1 : Int32))), some (.int (a1 &&& (1 : Int32))), some (.int (a2 &&& (1 : Int32))), some (.int (a3 &&& (1 : Int32))), some (.int v28), some (.int v34), some (.int ((((a0 &&& (1 : Int32)) + (a1 &&& (1 : Int32))) + (a2 &&& (1 : Int32))) + (a3 &&& (1 : Int32)))), some (.int m39), some (.long (((Int32.toInt64 a4) <<< (((32 : Int32)).toInt64 &&& 63)) ||| ((Int32.toInt64 a5) &&& (4294967295 : Int64)))), none, some (.long (((((Int32.toInt64 a4) <<< (((32 : Int32)).toInt64 &&& 63)) ||| ((Int32.toInt64 a5) &&& (4294967295 : Int64))) * (6364136223846793005 : Int64)) + (1442695040888963407 : Int64))), none, some (.int (Int64.toInt32 (XT.ushrL (((((Int32.toInt64 a4) <<< (((32 : Int32)).toInt64 &&& 63)) ||| ((Int32.toInt64 a5) &&& (4294967295 : Int64))) * (6364136223846793005 : Int64)) + (1442695040888963407 : Int64)) (63 : Int32)))), some (.int m42), some (.int m45), none, none, none, none, none, none, none, none, none, none, none, none, none]) (st' := [.int (Int64.toInt32 (XT.ushrL (((((Int32.toInt64 a4) <<< (((32 : Int32)).toInt64 &&& 63)) ||| ((Int32.toInt64 a5) &&& (4294967295 : Int64))) * (6364136223846793005 : Int64)) + (1442695040888963407 : Int64)) (63 : Int32)))]) rfl ?_
                      first | exact hm49 _ (by simp only [if_pos hc59]) | exact wpl_lle (by repeat (first | exact trivial | refine ⟨rfl, ?_⟩)) (hm49 _ (by simp only [if_pos hc59]))
                    · refine wpl_sl (n := 1) (pc' := 254) (ls' := [some (.int a0), some (.int a1), some (.int a2), some (.int a3), some (.int a4), some (.int a5), some (.ref 1), some (.int (a0 &&& (1 : Int32))), some (.int (a1 &&& (1 : Int32))), some (.int (a2 &&& (1 : Int32))), some (.int (a3 &&& (1 : Int32))), some (.int v28), some (.int v34), some (.int ((((a0 &&& (1 : Int32)) + (a1 &&& (1 : Int32))) + (a2 &&& (1 : Int32))) + (a3 &&& (1 : Int32)))), some (.int m39), some (.long (((Int32.toInt64 a4) <<< (((32 : Int32)).toInt64 &&& 63)) ||| ((Int32.toInt64 a5) &&& (4294967295 : Int64)))), none, some (.long (((((Int32.toInt64 a4) <<< (((32 : Int32)).toInt64 &&& 63)) ||| ((Int32.toInt64 a5) &&& (4294967295 : Int64))) * (6364136223846793005 : Int64)) + (1442695040888963407 : Int64))), none, some (.int (Int64.toInt32 (XT.ushrL (((((Int32.toInt64 a4) <<< (((32 : Int32)).toInt64 &&& 63)) ||| ((Int32.toInt64 a5) &&& (4294967295 : Int64))) * (6364136223846793005 : Int64)) + (1442695040888963407 : Int64)) (63 : Int32)))), some (.int m42), some (.int m45), none, none, none, none, none, none, none, none, none, none, none, none, none]) (st' := [.int m39]) rfl ?_
                      first | exact hm49 _ (by simp only [if_neg hc59]) | exact wpl_lle (by repeat (first | exact trivial | refine ⟨rfl, ?_⟩)) (hm49 _ (by simp only [if_neg hc59]))
                  refine wpl_icmp (a := 238) (b := 234) rfl (by decide) rfl rfl (wpl_br (p := m39 = (2 : Int32)) ⟨fun hc60 => ?_, fun hc60 => ?_⟩)
                  · refine wpl_sl (n := 2) (pc' := 239) (ls' := [some (.int a0), some (.int a1), some (.int a2), some (.int a3), some (.int a4), some (.int a5), some (.ref 1), some (.int (a0 &&& (1 : Int32))), some (.int (a1 &&& (1 : Int32))), some (.int (a2 &&& (1 : Int32))), some (.int (a3 &&& (1 : Int32))), some (.int v28), some (.int v34), some (.int ((((a0 &&& (1 : Int32)) + (a1 &&& (1 : Int32))) + (a2 &&& (1 : Int32))) + (a3 &&& (1 : Int32)))), some (.int m39), some (.long (((Int32.toInt64 a4) <<< (((32 : Int32)).toInt64 &&& 63)) ||| ((Int32.toInt64 a5) &&& (4294967295 : Int64)))), none, some (.long (((((Int32.toInt64 a4) <<< (((32 : Int32)).toInt64 &&& 63)) ||| ((Int32.toInt64 a5) &&& (4294967295 : Int64))) * (6364136223846793005 : Int64)) + (1442695040888963407 : Int64))), none, some (.int (Int64.toInt32 (XT.ushrL (((((Int32.toInt64 a4) <<< (((32 : Int32)).toInt64 &&& 63)) ||| ((Int32.toInt64 a5) &&& (4294967295 : Int64))) * (6364136223846793005 : Int64)) + (1442695040888963407 : Int64)) (63 : Int32)))), some (.int m42), none, none, none, none, none, none, none, none, none, none, none, none, none, none]) (st' := [.int (0 : Int32)]) rfl ?_
                    first | exact hm46 _ (by simp only [if_pos hc60]) | exact wpl_lle (by repeat (first | exact trivial | refine ⟨rfl, ?_⟩)) (hm46 _ (by simp only [if_pos hc60]))
                  · refine wpl_sl (n := 1) (pc' := 239) (ls' := [some (.int a0), some (.int a1), some (.int a2), some (.int a3), some (.int a4), some (.int a5), some (.ref 1), some (.int (a0 &&& (1 : Int32))), some (.int (a1 &&& (1 : Int32))), some (.int (a2 &&& (1 : Int32))), some (.int (a3 &&& (1 : Int32))), some (.int v28), some (.int v34), some (.int ((((a0 &&& (1 : Int32)) + (a1 &&& (1 : Int32))) + (a2 &&& (1 : Int32))) + (a3 &&& (1 : Int32)))), some (.int m39), some (.long (((Int32.toInt64 a4) <<< (((32 : Int32)).toInt64 &&& 63)) ||| ((Int32.toInt64 a5) &&& (4294967295 : Int64)))), none, some (.long (((((Int32.toInt64 a4) <<< (((32 : Int32)).toInt64 &&& 63)) ||| ((Int32.toInt64 a5) &&& (4294967295 : Int64))) * (6364136223846793005 : Int64)) + (1442695040888963407 : Int64))), none, some (.int (Int64.toInt32 (XT.ushrL (((((Int32.toInt64 a4) <<< (((32 : Int32)).toInt64 &&& 63)) ||| ((Int32.toInt64 a5) &&& (4294967295 : Int64))) * (6364136223846793005 : Int64)) + (1442695040888963407 : Int64)) (63 : Int32)))), some (.int m42), none, none, none, none, none, none, none, none, none, none, none, none, none, none]) (st' := [.int (1 : Int32)]) rfl ?_
                    first | exact hm46 _ (by simp only [if_neg hc60]) | exact wpl_lle (by repeat (first | exact trivial | refine ⟨rfl, ?_⟩)) (hm46 _ (by simp only [if_neg hc60]))
                refine wpl_icmp (a := 224) (b := 220) rfl (by decide) rfl rfl (wpl_br (p := m39 = (2 : Int32)) ⟨fun hc61 => ?_, fun hc61 => ?_⟩)
                · refine wpl_sl (n := 2) (pc' := 226) (ls' := [some (.int a0), some (.int a1), some (.int a2), some (.int a3), some (.int a4), some (.int a5), some (.ref 1), some (.int (a0 &&& (1 : Int32))), some (.int (a1 &&& (1 : Int32))), some (.int (a2 &&& (1 : Int32))), some (.int (a3 &&& (1 : Int32))), some (.int v28), some (.int v34), some (.int ((((a0 &&& (1 : Int32)) + (a1 &&& (1 : Int32))) + (a2 &&& (1 : Int32))) + (a3 &&& (1 : Int32)))), some (.int m39), some (.long (((Int32.toInt64 a4) <<< (((32 : Int32)).toInt64 &&& 63)) ||| ((Int32.toInt64 a5) &&& (4294967295 : Int64)))), none, some (.long (((((Int32.toInt64 a4) <<< (((32 : Int32)).toInt64 &&& 63)) ||| ((Int32.toInt64 a5) &&& (4294967295 : Int64))) * (6364136223846793005 : Int64)) + (1442695040888963407 : Int64))), none, some (.int (Int64.toInt32 (XT.ushrL (((((Int32.toInt64 a4) <<< (((32 : Int32)).toInt64 &&& 63)) ||| ((Int32.toInt64 a5) &&& (4294967295 : Int64))) * (6364136223846793005 : Int64)) + (1442695040888963407 : Int64)) (63 : Int32)))), none, none, none, none, none, none, none, none, none, none, none, none, none, none, none]) (st' := [.int (-1 : Int32)]) rfl ?_
                  first | exact hm43 _ (by simp only [if_pos hc61]) | exact wpl_lle (by repeat (first | exact trivial | refine ⟨rfl, ?_⟩)) (hm43 _ (by simp only [if_pos hc61]))
                · refine wpl_sl (n := 1) (pc' := 226) (ls' := [some (.int a0), some (.int a1), some (.int a2), some (.int a3), some (.int a4), some (.int a5), some (.ref 1), some (.int (a0 &&& (1 : Int32))), some (.int (a1 &&& (1 : Int32))), some (.int (a2 &&& (1 : Int32))), some (.int (a3 &&& (1 : Int32))), some (.int v28), some (.int v34), some (.int ((((a0 &&& (1 : Int32)) + (a1 &&& (1 : Int32))) + (a2 &&& (1 : Int32))) + (a3 &&& (1 : Int32)))), some (.int m39), some (.long (((Int32.toInt64 a4) <<< (((32 : Int32)).toInt64 &&& 63)) ||| ((Int32.toInt64 a5) &&& (4294967295 : Int64)))), none, some (.long (((((Int32.toInt64 a4) <<< (((32 : Int32)).toInt64 &&& 63)) ||| ((Int32.toInt64 a5) &&& (4294967295 : Int64))) * (6364136223846793005 : Int64)) + (1442695040888963407 : Int64))), none, some (.int (Int64.toInt32 (XT.ushrL (((((Int32.toInt64 a4) <<< (((32 : Int32)).toInt64 &&& 63)) ||| ((Int32.toInt64 a5) &&& (4294967295 : Int64))) * (6364136223846793005 : Int64)) + (1442695040888963407 : Int64)) (63 : Int32)))), none, none, none, none, none, none, none, none, none, none, none, none, none, none, none]) (st' := [.int m39]) rfl ?_
                  first | exact hm43 _ (by simp only [if_neg hc61]) | exact wpl_lle (by repeat (first | exact trivial | refine ⟨rfl, ?_⟩)) (hm43 _ (by simp only [if_neg hc61]))
              refine wpl_if (a := 165) (b := 161) rfl (by decide) rfl rfl (wpl_br (p := ((((a0 &&& (1 : Int32)) + (a1 &&& (1 : Int32))) + (a2 &&& (1 : Int32))) + (a3 &&& (1 : Int32))) = (0 : Int32)) ⟨fun hc62 => ?_, fun hc62 => ?_⟩)
              · refine wpl_sl (n := 2) (pc' := 176) (ls' := [some (.int a0), some (.int a1), some (.int a2), some (.int a3), some (.int a4), some (.int a5), some (.ref 1), some (.int (a0 &&& (1 : Int32))), some (.int (a1 &&& (1 : Int32))), some (.int (a2 &&& (1 : Int32))), some (.int (a3 &&& (1 : Int32))), some (.int v28), some (.int v34), some (.int ((((a0 &&& (1 : Int32)) + (a1 &&& (1 : Int32))) + (a2 &&& (1 : Int32))) + (a3 &&& (1 : Int32)))), none, none, none, none, none, none, none, none, none, none, none, none, none, none, none, none, none, none, none, none, none]) (st' := [.int (0 : Int32)]) rfl ?_
                first | exact hm40 _ (by simp only [if_pos hc62]) | exact wpl_lle (by repeat (first | exact trivial | refine ⟨rfl, ?_⟩)) (hm40 _ (by simp only [if_pos hc62]))
              · refine wpl_sl (n := 2) (pc' := 168) (ls' := [some (.int a0), some (.int a1), some (.int a2), some (.int a3), some (.int a4), some (.int a5), some (.ref 1), some (.int (a0 &&& (1 : Int32))), some (.int (a1 &&& (1 : Int32))), some (.int (a2 &&& (1 : Int32))), some (.int (a3 &&& (1 : Int32))), some (.int v28), some (.int v34), some (.int ((((a0 &&& (1 : Int32)) + (a1 &&& (1 : Int32))) + (a2 &&& (1 : Int32))) + (a3 &&& (1 : Int32)))), none, none, none, none, none, none, none, none, none, none, none, none, none, none, none, none, none, none, none, none, none]) (st' := [.int (4 : Int32), .int ((((a0 &&& (1 : Int32)) + (a1 &&& (1 : Int32))) + (a2 &&& (1 : Int32))) + (a3 &&& (1 : Int32)))]) rfl ?_
                refine wpl_icmp (a := 175) (b := 171) rfl (by decide) rfl rfl (wpl_br (p := ((((a0 &&& (1 : Int32)) + (a1 &&& (1 : Int32))) + (a2 &&& (1 : Int32))) + (a3 &&& (1 : Int32))) = (4 : Int32)) ⟨fun hc63 => ?_, fun hc63 => ?_⟩)
                · refine wpl_sl (n := 2) (pc' := 176) (ls' := [some (.int a0), some (.int a1), some (.int a2), some (.int a3), some (.int a4), some (.int a5), some (.ref 1), some (.int (a0 &&& (1 : Int32))), some (.int (a1 &&& (1 : Int32))), some (.int (a2 &&& (1 : Int32))), some (.int (a3 &&& (1 : Int32))), some (.int v28), some (.int v34), some (.int ((((a0 &&& (1 : Int32)) + (a1 &&& (1 : Int32))) + (a2 &&& (1 : Int32))) + (a3 &&& (1 : Int32)))), none, none, none, none, none, none, none, none, none, none, none, none, none, none, none, none, none, none, none, none, none]) (st' := [.int (1 : Int32)]) rfl ?_
                  first | exact hm40 _ (by simp only [if_neg hc62, if_pos hc63]) | exact wpl_lle (by repeat (first | exact trivial | refine ⟨rfl, ?_⟩)) (hm40 _ (by simp only [if_neg hc62, if_pos hc63]))
                · refine wpl_sl (n := 1) (pc' := 176) (ls' := [some (.int a0), some (.int a1), some (.int a2), some (.int a3), some (.int a4), some (.int a5), some (.ref 1), some (.int (a0 &&& (1 : Int32))), some (.int (a1 &&& (1 : Int32))), some (.int (a2 &&& (1 : Int32))), some (.int (a3 &&& (1 : Int32))), some (.int v28), some (.int v34), some (.int ((((a0 &&& (1 : Int32)) + (a1 &&& (1 : Int32))) + (a2 &&& (1 : Int32))) + (a3 &&& (1 : Int32)))), none, none, none, none, none, none, none, none, none, none, none, none, none, none, none, none, none, none, none, none, none]) (st' := [.int (2 : Int32)]) rfl ?_
                  first | exact hm40 _ (by simp only [if_neg hc62, if_neg hc63]) | exact wpl_lle (by repeat (first | exact trivial | refine ⟨rfl, ?_⟩)) (hm40 _ (by simp only [if_neg hc62, if_neg hc63]))
            · have h38 := h35.2 hc36
              refine wpl_sl (n := 1) (pc' := 142) (ls' := [some (.int a0), some (.int a1), some (.int a2), some (.int a3), some (.int a4), some (.int a5), some (.ref 1), some (.int (a0 &&& (1 : Int32))), some (.int (a1 &&& (1 : Int32))), some (.int (a2 &&& (1 : Int32))), some (.int (a3 &&& (1 : Int32))), some (.int v28), some (.int v34), none, none, none, none, none, none, none, none, none, none, none, none, none, none, none, none, none, none, none, none, none, none]) (st' := [.int (0 : Int32)]) rfl ?_
              exact wpl_ret rfl rfl rfl ⟨(0 : Int32), rfl, h38⟩
          · have h32 := h29.2 hc30
            refine wpl_sl (n := 1) (pc' := 120) (ls' := [some (.int a0), some (.int a1), some (.int a2), some (.int a3), some (.int a4), some (.int a5), some (.ref 1), some (.int (a0 &&& (1 : Int32))), some (.int (a1 &&& (1 : Int32))), some (.int (a2 &&& (1 : Int32))), some (.int (a3 &&& (1 : Int32))), some (.int v28), none, none, none, none, none, none, none, none, none, none, none, none, none, none, none, none, none, none, none, none, none, none, none]) (st' := [.int (0 : Int32)]) rfl ?_
            exact wpl_ret rfl rfl rfl ⟨(0 : Int32), rfl, h32⟩
theorem l0_287 (x14 : Int32) (x20 : Int32) (x21 : Int32) (x22 : Int32) (x23 : Int32) (x24 : Int64) (x26 : Int32)  (Q : Int32 → Wd → Prop) (h : ((x26 < (4 : Int32)) → calI PP 5 11 [.ref 0, .int x26] s (fun v68 s67 => calI PP 12 11 [.ref 0, .int x26, .int (1 : Int32), .int (1 : Int32)] s67 (fun v71 s70 => calI PP 10 11 [.ref 0, .int x26] s70 (fun v74 s73 => calI PP 11 11 [.ref 0, .int x26] s73 (fun v77 s76 => calI PP 8 11 [.ref 0, .int x26] s76 (fun v80 s79 => calI PP 14 11 [.ref 0, .int x26] s79 (fun v83 s82 => calL PP 15 11 [.ref 0, .int x26] s82 (fun v86 s85 => ((v68 = (2 : Int32)) → ((v71 = x14) → ((v74 = x20) → ((v77 = x21) → ((v80 = x22) → ((v83 = x23) → (((XT.cmpL v86 x24) = (0 : Int32)) → wplI PP QQ none 0 lm0 287 [none, none, none, none, none, none, some (.ref 1), none, none, none, none, none, none, none, some (.int x14), none, none, none, none, none, some (.int x20), some (.int x21), some (.int x22), some (.int x23), some (.long x24), none, some (.int (x26 + (1 : Int32))), none, none, none, none, none, none, none, none] [] (W1 s85) Q) ∧ (¬ ((XT.cmpL v86 x24) = (0 : Int32)) → Q (0 : Int32) (W1 s85))) ∧ (¬ (v83 = x23) → Q (0 : Int32) (W1 s85))) ∧ (¬ (v80 = x22) → Q (0 : Int32) (W1 s85))) ∧ (¬ (v77 = x21) → Q (0 : Int32) (W1 s85))) ∧ (¬ (v74 = x20) → Q (0 : Int32) (W1 s85))) ∧ (¬ (v71 = x14) → Q (0 : Int32) (W1 s85))) ∧ (¬ (v68 = (2 : Int32)) → Q (0 : Int32) (W1 s85)))))))))) ∧ (¬ (x26 < (4 : Int32)) → Q (1 : Int32) (W1 s))) : wplI PP QQ none 0 lm0 287 [none, none, none, none, none, none, some (.ref 1), none, none, none, none, none, none, none, some (.int x14), none, none, none, none, none, some (.int x20), some (.int x21), some (.int x22), some (.int x23), some (.long x24), none, some (.int x26), none, none, none, none, none, none, none, none] [] (W1 s) Q := by
  refine wpl_sl (n := 2) (pc' := 290) (ls' := [none, none, none, none, none, none, some (.ref 1), none, none, none, none, none, none, none, some (.int x14), none, none, none, none, none, some (.int x20), some (.int x21), some (.int x22), some (.int x23), some (.long x24), none, some (.int x26), none, none, none, none, none, none, none, none]) (st' := [.int (4 : Int32), .int x26]) rfl ?_
  refine wpl_icmp (a := 421) (b := 293) rfl (by decide) rfl rfl (wpl_br (p := x26 < (4 : Int32)) ⟨fun hc64 => ?_, fun hc64 => ?_⟩)
  · have h65 := h.1 hc64
    refine wpl_sl (n := 2) (pc' := 297) (ls' := [none, none, none, none, none, none, some (.ref 1), none, none, none, none, none, none, none, some (.int x14), none, none, none, none, none, some (.int x20), some (.int x21), some (.int x22), some (.int x23), some (.long x24), none, some (.int x26), none, none, none, none, none, none, none, none]) (st' := [.int x26, .ref 1]) rfl ?_
    refine wpl_v1 (m' := 5) (me' := cm5) (as := [.int x26]) (r := []) rfl rfl rfl rfl rfl ⟨by decide, (by first | decide | exact Nat.le_of_ble_eq_true rfl), (by first | decide | exact Nat.le_of_ble_eq_true rfl), rfl⟩ (cal_I (calI.mono h65 fun v68 s67 h69 => ?_))
    refine wpl_sl (n := 5) (pc' := 308) (ls' := [none, none, none, none, none, none, some (.ref 1), none, none, none, none, none, none, none, some (.int x14), none, none, none, none, none, some (.int x20), some (.int x21), some (.int x22), some (.int x23), some (.long x24), none, some (.int x26), some (.int v68), none, none, none, none, none, none, none]) (st' := [.int (1 : Int32), .int (1 : Int32), .int x26, .ref 1]) rfl ?_
    refine wpl_v1 (m' := 12) (me' := cm12) (as := [.int x26, .int (1 : Int32), .int (1 : Int32)]) (r := []) rfl rfl rfl rfl rfl ⟨by decide, (by first | decide | exact Nat.le_of_ble_eq_true rfl), (by first | decide | exact Nat.le_of_ble_eq_true rfl), rfl⟩ (cal_I (calI.mono h69 fun v71 s70 h72 => ?_))
    refine wpl_sl (n := 3) (pc' := 317) (ls' := [none, none, none, none, none, none, some (.ref 1), none, none, none, none, none, none, none, some (.int x14), none, none, none, none, none, some (.int x20), some (.int x21), some (.int x22), some (.int x23), some (.long x24), none, some (.int x26), some (.int v68), some (.int v71), none, none, none, none, none, none]) (st' := [.int x26, .ref 1]) rfl ?_
    refine wpl_v1 (m' := 10) (me' := cm10) (as := [.int x26]) (r := []) rfl rfl rfl rfl rfl ⟨by decide, (by first | decide | exact Nat.le_of_ble_eq_true rfl), (by first | decide | exact Nat.le_of_ble_eq_true rfl), rfl⟩ (cal_I (calI.mono h72 fun v74 s73 h75 => ?_))
    refine wpl_sl (n := 3) (pc' := 326) (ls' := [none, none, none, none, none, none, some (.ref 1), none, none, none, none, none, none, none, some (.int x14), none, none, none, none, none, some (.int x20), some (.int x21), some (.int x22), some (.int x23), some (.long x24), none, some (.int x26), some (.int v68), some (.int v71), some (.int v74), none, none, none, none, none]) (st' := [.int x26, .ref 1]) rfl ?_
    refine wpl_v1 (m' := 11) (me' := cm11) (as := [.int x26]) (r := []) rfl rfl rfl rfl rfl ⟨by decide, (by first | decide | exact Nat.le_of_ble_eq_true rfl), (by first | decide | exact Nat.le_of_ble_eq_true rfl), rfl⟩ (cal_I (calI.mono h75 fun v77 s76 h78 => ?_))
    refine wpl_sl (n := 3) (pc' := 335) (ls' := [none, none, none, none, none, none, some (.ref 1), none, none, none, none, none, none, none, some (.int x14), none, none, none, none, none, some (.int x20), some (.int x21), some (.int x22), some (.int x23), some (.long x24), none, some (.int x26), some (.int v68), some (.int v71), some (.int v74), some (.int v77), none, none, none, none]) (st' := [.int x26, .ref 1]) rfl ?_
    refine wpl_v1 (m' := 8) (me' := cm8) (as := [.int x26]) (r := []) rfl rfl rfl rfl rfl ⟨by decide, (by first | decide | exact Nat.le_of_ble_eq_true rfl), (by first | decide | exact Nat.le_of_ble_eq_true rfl), rfl⟩ (cal_I (calI.mono h78 fun v80 s79 h81 => ?_))
    refine wpl_sl (n := 3) (pc' := 344) (ls' := [none, none, none, none, none, none, some (.ref 1), none, none, none, none, none, none, none, some (.int x14), none, none, none, none, none, some (.int x20), some (.int x21), some (.int x22), some (.int x23), some (.long x24), none, some (.int x26), some (.int v68), some (.int v71), some (.int v74), some (.int v77), some (.int v80), none, none, none]) (st' := [.int x26, .ref 1]) rfl ?_
    refine wpl_v1 (m' := 14) (me' := cm14) (as := [.int x26]) (r := []) rfl rfl rfl rfl rfl ⟨by decide, (by first | decide | exact Nat.le_of_ble_eq_true rfl), (by first | decide | exact Nat.le_of_ble_eq_true rfl), rfl⟩ (cal_I (calI.mono h81 fun v83 s82 h84 => ?_))
    refine wpl_sl (n := 3) (pc' := 353) (ls' := [none, none, none, none, none, none, some (.ref 1), none, none, none, none, none, none, none, some (.int x14), none, none, none, none, none, some (.int x20), some (.int x21), some (.int x22), some (.int x23), some (.long x24), none, some (.int x26), some (.int v68), some (.int v71), some (.int v74), some (.int v77), some (.int v80), some (.int v83), none, none]) (st' := [.int x26, .ref 1]) rfl ?_
    refine wpl_v1 (m' := 15) (me' := cm15) (as := [.int x26]) (r := []) rfl rfl rfl rfl rfl ⟨by decide, (by first | decide | exact Nat.le_of_ble_eq_true rfl), (by first | decide | exact Nat.le_of_ble_eq_true rfl), rfl⟩ (cal_L (calL.mono h84 fun v86 s85 h87 => ?_))
    refine wpl_sl (n := 3) (pc' := 361) (ls' := [none, none, none, none, none, none, some (.ref 1), none, none, none, none, none, none, none, some (.int x14), none, none, none, none, none, some (.int x20), some (.int x21), some (.int x22), some (.int x23), some (.long x24), none, some (.int x26), some (.int v68), some (.int v71), some (.int v74), some (.int v77), some (.int v80), some (.int v83), some (.long v86), none]) (st' := [.int (2 : Int32), .int v68]) rfl ?_
    refine wpl_icmp (a := 366) (b := 364) rfl (by decide) rfl rfl (wpl_br (p := v68 = (2 : Int32)) ⟨fun hc88 => ?_, fun hc88 => ?_⟩)
    · have h89 := h87.1 hc88
      refine wpl_sl (n := 2) (pc' := 370) (ls' := [none, none, none, none, none, none, some (.ref 1), none, none, none, none, none, none, none, some (.int x14), none, none, none, none, none, some (.int x20), some (.int x21), some (.int x22), some (.int x23), some (.long x24), none, some (.int x26), some (.int v68), some (.int v71), some (.int v74), some (.int v77), some (.int v80), some (.int v83), some (.long v86), none]) (st' := [.int x14, .int v71]) rfl ?_
      refine wpl_icmp (a := 375) (b := 373) rfl (by decide) rfl rfl (wpl_br (p := v71 = x14) ⟨fun hc91 => ?_, fun hc91 => ?_⟩)
      · have h92 := h89.1 hc91
        refine wpl_sl (n := 2) (pc' := 379) (ls' := [none, none, none, none, none, none, some (.ref 1), none, none, none, none, none, none, none, some (.int x14), none, none, none, none, none, some (.int x20), some (.int x21), some (.int x22), some (.int x23), some (.long x24), none, some (.int x26), some (.int v68), some (.int v71), some (.int v74), some (.int v77), some (.int v80), some (.int v83), some (.long v86), none]) (st' := [.int x20, .int v74]) rfl ?_
        refine wpl_icmp (a := 389) (b := 382) rfl (by decide) rfl rfl (wpl_br (p := v74 = x20) ⟨fun hc94 => ?_, fun hc94 => ?_⟩)
        · have h95 := h92.1 hc94
          refine wpl_sl (n := 2) (pc' := 386) (ls' := [none, none, none, none, none, none, some (.ref 1), none, none, none, none, none, none, none, some (.int x14), none, none, none, none, none, some (.int x20), some (.int x21), some (.int x22), some (.int x23), some (.long x24), none, some (.int x26), some (.int v68), some (.int v71), some (.int v74), some (.int v77), some (.int v80), some (.int v83), some (.long v86), none]) (st' := [.int x21, .int v77]) rfl ?_
          refine wpl_icmp (a := 391) (b := 389) rfl (by decide) rfl rfl (wpl_br (p := v77 = x21) ⟨fun hc97 => ?_, fun hc97 => ?_⟩)
          · have h98 := h95.1 hc97
            refine wpl_sl (n := 2) (pc' := 395) (ls' := [none, none, none, none, none, none, some (.ref 1), none, none, none, none, none, none, none, some (.int x14), none, none, none, none, none, some (.int x20), some (.int x21), some (.int x22), some (.int x23), some (.long x24), none, some (.int x26), some (.int v68), some (.int v71), some (.int v74), some (.int v77), some (.int v80), some (.int v83), some (.long v86), none]) (st' := [.int x22, .int v80]) rfl ?_
            refine wpl_icmp (a := 413) (b := 398) rfl (by decide) rfl rfl (wpl_br (p := v80 = x22) ⟨fun hc100 => ?_, fun hc100 => ?_⟩)
            · have h101 := h98.1 hc100
              refine wpl_sl (n := 2) (pc' := 402) (ls' := [none, none, none, none, none, none, some (.ref 1), none, none, none, none, none, none, none, some (.int x14), none, none, none, none, none, some (.int x20), some (.int x21), some (.int x22), some (.int x23), some (.long x24), none, some (.int x26), some (.int v68), some (.int v71), some (.int v74), some (.int v77), some (.int v80), some (.int v83), some (.long v86), none]) (st' := [.int x23, .int v83]) rfl ?_
              refine wpl_icmp (a := 413) (b := 405) rfl (by decide) rfl rfl (wpl_br (p := v83 = x23) ⟨fun hc103 => ?_, fun hc103 => ?_⟩)
              · have h104 := h101.1 hc103
                refine wpl_sl (n := 3) (pc' := 410) (ls' := [none, none, none, none, none, none, some (.ref 1), none, none, none, none, none, none, none, some (.int x14), none, none, none, none, none, some (.int x20), some (.int x21), some (.int x22), some (.int x23), some (.long x24), none, some (.int x26), some (.int v68), some (.int v71), some (.int v74), some (.int v77), some (.int v80), some (.int v83), some (.long v86), none]) (st' := [.int (XT.cmpL v86 x24)]) rfl ?_
                refine wpl_if (a := 415) (b := 413) rfl (by decide) rfl rfl (wpl_br (p := (XT.cmpL v86 x24) = (0 : Int32)) ⟨fun hc106 => ?_, fun hc106 => ?_⟩)
                · have h107 := h104.1 hc106
                  refine wpl_sl (n := 2) (pc' := 287) (ls' := [none, none, none, none, none, none, some (.ref 1), none, none, none, none, none, none, none, some (.int x14), none, none, none, none, none, some (.int x20), some (.int x21), some (.int x22), some (.int x23), some (.long x24), none, some (.int (x26 + (1 : Int32))), some (.int v68), some (.int v71), some (.int v74), some (.int v77), some (.int v80), some (.int v83), some (.long v86), none]) (st' := []) rfl ?_
                  exact wpl_lle (ls := [none, none, none, none, none, none, some (.ref 1), none, none, none, none, none, none, none, some (.int x14), none, none, none, none, none, some (.int x20), some (.int x21), some (.int x22), some (.int x23), some (.long x24), none, some (.int (x26 + (1 : Int32))), none, none, none, none, none, none, none, none]) ⟨rfl, rfl, rfl, rfl, rfl, rfl, rfl, rfl, trivial⟩ h107
                · have h108 := h104.2 hc106
                  refine wpl_sl (n := 1) (pc' := 414) (ls' := [none, none, none, none, none, none, some (.ref 1), none, none, none, none, none, none, none, some (.int x14), none, none, none, none, none, some (.int x20), some (.int x21), some (.int x22), some (.int x23), some (.long x24), none, some (.int x26), some (.int v68), some (.int v71), some (.int v74), some (.int v77), some (.int v80), some (.int v83), some (.long v86), none]) (st' := [.int (0 : Int32)]) rfl ?_
                  exact wpl_ret rfl rfl rfl ⟨(0 : Int32), rfl, h108⟩
              · have h105 := h101.2 hc103
                refine wpl_sl (n := 1) (pc' := 414) (ls' := [none, none, none, none, none, none, some (.ref 1), none, none, none, none, none, none, none, some (.int x14), none, none, none, none, none, some (.int x20), some (.int x21), some (.int x22), some (.int x23), some (.long x24), none, some (.int x26), some (.int v68), some (.int v71), some (.int v74), some (.int v77), some (.int v80), some (.int v83), some (.long v86), none]) (st' := [.int (0 : Int32)]) rfl ?_
                exact wpl_ret rfl rfl rfl ⟨(0 : Int32), rfl, h105⟩
            · have h102 := h98.2 hc100
              refine wpl_sl (n := 1) (pc' := 414) (ls' := [none, none, none, none, none, none, some (.ref 1), none, none, none, none, none, none, none, some (.int x14), none, none, none, none, none, some (.int x20), some (.int x21), some (.int x22), some (.int x23), some (.long x24), none, some (.int x26), some (.int v68), some (.int v71), some (.int v74), some (.int v77), some (.int v80), some (.int v83), some (.long v86), none]) (st' := [.int (0 : Int32)]) rfl ?_
              exact wpl_ret rfl rfl rfl ⟨(0 : Int32), rfl, h102⟩
          · have h99 := h95.2 hc97
            refine wpl_sl (n := 1) (pc' := 390) (ls' := [none, none, none, none, none, none, some (.ref 1), none, none, none, none, none, none, none, some (.int x14), none, none, none, none, none, some (.int x20), some (.int x21), some (.int x22), some (.int x23), some (.long x24), none, some (.int x26), some (.int v68), some (.int v71), some (.int v74), some (.int v77), some (.int v80), some (.int v83), some (.long v86), none]) (st' := [.int (0 : Int32)]) rfl ?_
            exact wpl_ret rfl rfl rfl ⟨(0 : Int32), rfl, h99⟩
        · have h96 := h92.2 hc94
          refine wpl_sl (n := 1) (pc' := 390) (ls' := [none, none, none, none, none, none, some (.ref 1), none, none, none, none, none, none, none, some (.int x14), none, none, none, none, none, some (.int x20), some (.int x21), some (.int x22), some (.int x23), some (.long x24), none, some (.int x26), some (.int v68), some (.int v71), some (.int v74), some (.int v77), some (.int v80), some (.int v83), some (.long v86), none]) (st' := [.int (0 : Int32)]) rfl ?_
          exact wpl_ret rfl rfl rfl ⟨(0 : Int32), rfl, h96⟩
      · have h93 := h89.2 hc91
        refine wpl_sl (n := 1) (pc' := 374) (ls' := [none, none, none, none, none, none, some (.ref 1), none, none, none, none, none, none, none, some (.int x14), none, none, none, none, none, some (.int x20), some (.int x21), some (.int x22), some (.int x23), some (.long x24), none, some (.int x26), some (.int v68), some (.int v71), some (.int v74), some (.int v77), some (.int v80), some (.int v83), some (.long v86), none]) (st' := [.int (0 : Int32)]) rfl ?_
        exact wpl_ret rfl rfl rfl ⟨(0 : Int32), rfl, h93⟩
    · have h90 := h87.2 hc88
      refine wpl_sl (n := 1) (pc' := 365) (ls' := [none, none, none, none, none, none, some (.ref 1), none, none, none, none, none, none, none, some (.int x14), none, none, none, none, none, some (.int x20), some (.int x21), some (.int x22), some (.int x23), some (.long x24), none, some (.int x26), some (.int v68), some (.int v71), some (.int v74), some (.int v77), some (.int v80), some (.int v83), some (.long v86), none]) (st' := [.int (0 : Int32)]) rfl ?_
      exact wpl_ret rfl rfl rfl ⟨(0 : Int32), rfl, h90⟩
  · have h66 := h.2 hc64
    refine wpl_sl (n := 1) (pc' := 422) (ls' := [none, none, none, none, none, none, some (.ref 1), none, none, none, none, none, none, none, some (.int x14), none, none, none, none, none, some (.int x20), some (.int x21), some (.int x22), some (.int x23), some (.long x24), none, some (.int x26), none, none, none, none, none, none, none, none]) (st' := [.int (1 : Int32)]) rfl ?_
    exact wpl_ret rfl rfl rfl ⟨(1 : Int32), rfl, h66⟩
theorem own_clamp (x lo hi : Int32) (s : St) (Q : Int32 → St → Prop) (h : Q (if x < lo then lo else if hi < x then hi else x) s) : calI PP 20 11 [.ref 0, .int x, .int lo, .int hi] s Q := by
  apply c20_in
  refine ⟨fun a => ?_, fun a => ⟨fun b => ?_, fun b => ?_⟩⟩
  · rw [if_pos a] at h; exact h
  · rw [if_neg a, if_pos b] at h; exact h
  · rw [if_neg a, if_neg b] at h; exact h
theorem own_cl_rng {x lo hi m : Int32} (h : lo.toInt ≤ hi.toInt) (e : m = if x < lo then lo else if hi < x then hi else x) : lo.toInt ≤ m.toInt ∧ m.toInt ≤ hi.toInt := by
  subst e
  split
  · omega
  · split
    · omega
    · simp only [i32_lt] at *; omega
/-- the state that the constructor makes -/
def own_K (f R : Int32) (s : St) : Prop := (gI s 0 19 = f ∧ gI s 0 20 = R ∧ gI s 0 21 = 7 - f ∧ gI s 0 22 = 0) ∧ (∀ j, gI s 1 j = 0) ∧ (∀ j, j < 7 → gI s 2 j = -1) ∧ (∀ j, j < 7 → gI s 3 j = -1) ∧ (∀ j, gI s 4 j = 0) ∧ (∀ j, gI s 5 j = 0) ∧ (∀ j, j < 7 → gI s 6 j = -1) ∧ (∀ j, gI s 7 j = 0) ∧ (∀ j, gL s 8 j = 0) ∧ (∀ j, gI s 9 j = 0) ∧ (∀ j, j < 112 → gI s 10 j = -1) ∧ (∀ j, gI s 11 j = 0)
theorem own_21 (s : St) (p : Int32) (Q : Int32 → St → Prop) (h0 : 0 ≤ p.toInt → p.toInt < 7 → Q 1 s) (h1 : ¬ (0 ≤ p.toInt ∧ p.toInt < 7) → Q 0 s) : calI PP 21 11 [.ref 0, .int p] s Q := by
  apply c21_in
  simp only [i32_lt]
  have e7 : (7 : Int32).toInt = 7 := by decide
  have e0 : (0 : Int32).toInt = 0 := by decide
  rw [e7, e0]
  exact ⟨fun a => h1 (by omega), fun a => ⟨fun b => h0 (by omega) b, fun b => h1 (by omega)⟩⟩
theorem own_fill {s : St} {c : Nat} {i v : Int32} (h0 : 0 ≤ i.toInt) (e : (i + 1).toInt = i.toInt + 1) (h : ∀ j, j < ix i → gI s c j = v) : ∀ j, j < ix (i + 1) → gI (sI s c (ix i) v) c j = v := by
  intro j hj
  have a := ix_int h0
  have b := ix_int (i := i + 1) (by omega)
  rw [gI_sI]
  by_cases q : j = ix i
  · rw [if_pos ⟨rfl, q⟩]
  · rw [if_neg (by omega)]; exact h j (by omega)
theorem own_ctor (i0 i1 : Int32) (Q : St → Prop) (h : ∀ f R s, f = (if i0 < 0 then 0 else if 3 < i0 then 3 else i0) → R = (if i1 < 1 then 1 else if 8 < i1 then 8 else i1) → own_K f R s → Q s) : calV PP 0 0 [.ref 0, .int i0, .int i1] s0 Q := by
  apply c0_in
  apply own_clamp
  apply own_clamp
  generalize ef : (if i0 < 0 then (0 : Int32) else if 3 < i0 then 3 else i0) = f at *
  generalize eR : (if i1 < 1 then (1 : Int32) else if 8 < i1 then 8 else i1) = R at *
  apply c17_in
  refine loop_up (F := fun i => ∀ s, (gI s 0 19 = f ∧ gI s 0 20 = R ∧ gI s 0 21 = 7 - f ∧ gI s 0 22 = 0) → (∀ j, gI s 1 j = 0) → (∀ j, j < ix i → gI s 2 j = -1) → (∀ j, j < ix i → gI s 3 j = -1) → (∀ j, gI s 4 j = 0) → (∀ j, gI s 5 j = 0) → (∀ j, j < ix i → gI s 6 j = -1) → (∀ j, gI s 7 j = 0) → (∀ j, gL s 8 j = 0) → (∀ j, gI s 9 j = 0) → (∀ j, gI s 11 j = 0) → wpcV PP 17 cm17 11 2 [some (.ref 0), some (.int i)] [] s _) 7 (by decide) (fun i h0 h1 e ih s k0 k1 k2 k3 k4 k5 k6 k7 k8 k9 k11 => ?_) (fun i hi s k0 k1 k2 k3 k4 k5 k6 k7 k8 k9 k11 => ?_) 0 (by decide) (by decide) _ ⟨rfl, rfl, rfl, rfl⟩ (fun _ => rfl) (fun _ q => absurd q (by simp [ix])) (fun _ q => absurd q (by simp [ix])) (fun _ => rfl) (fun _ => rfl) (fun _ q => absurd q (by simp [ix])) (fun _ => rfl) (fun _ => rfl) (fun _ => rfl) (fun _ => rfl)
  · refine c17_2 _ _ _ ⟨fun _ => c18_in _ _ _ (own_21 _ _ _ (fun _ _ => ⟨fun q => absurd q (by decide), fun _ => ?_⟩) (fun q => absurd ⟨h0, h1⟩ q)), fun q => absurd (by rw [i32_lt]; exact h1) q⟩
    have b : inb 7 i := ⟨h0, h1⟩
    refine ⟨b, b, b, b, b, b, b, b, b, ?_⟩
    have f2 := own_fill h0 e k2
    have f3 := own_fill h0 e k3
    have f6 := own_fill h0 e k6
    refine ih _ ?_ ?_ ?_ ?_ ?_ ?_ ?_ ?_ ?_ ?_ ?_
    · simpa [gI_sI, gI_sL] using k0
    · intro j; simp [gI_sI, gI_sL, k1]
    · intro j hj; have := f2 j hj; simpa [gI_sI, gI_sL] using this
    · intro j hj; have := f3 j hj; simpa [gI_sI, gI_sL] using this
    · intro j; simp [gI_sI, gI_sL, k4]
    · intro j; simp [gI_sI, gI_sL, k5]
    · intro j hj; have := f6 j hj; simpa [gI_sI, gI_sL] using this
    · intro j; simp [gI_sI, gI_sL, k7]
    · intro j; simp [gL_sI, gL_sL, k8]
    · intro j; simp [gI_sI, gI_sL, k9]
    · intro j; simp [gI_sI, gI_sL, k11]
  · refine c17_2 _ _ _ ⟨fun q => absurd q (by rw [i32_lt, hi]; decide), fun _ => ?_⟩
    have i7 : ix i = 7 := by have := ix_int (i := i) (by omega); omega
    rw [i7] at k2 k3 k6
    apply c19_in
    refine loop_up (F := fun i => ∀ s, (gI s 0 19 = f ∧ gI s 0 20 = R ∧ gI s 0 21 = 7 - f ∧ gI s 0 22 = 0) → (∀ j, gI s 1 j = 0) → (∀ j, j < 7 → gI s 2 j = -1) → (∀ j, j < 7 → gI s 3 j = -1) → (∀ j, gI s 4 j = 0) → (∀ j, gI s 5 j = 0) → (∀ j, j < 7 → gI s 6 j = -1) → (∀ j, gI s 7 j = 0) → (∀ j, gL s 8 j = 0) → (∀ j, gI s 9 j = 0) → (∀ j, gI s 11 j = 0) → (∀ j, j < ix i → gI s 10 j = -1) → wpcV PP 19 cm19 11 2 [some (.ref 0), some (.int i)] [] s _) 112 (by decide) (fun i h0 h1 e ih s k0 k1 k2 k3 k4 k5 k6 k7 k8 k9 k11 k10 => ?_) (fun i hi s k0 k1 k2 k3 k4 k5 k6 k7 k8 k9 k11 k10 => ?_) 0 (by decide) (by decide) s k0 k1 k2 k3 k4 k5 k6 k7 k8 k9 k11 (fun _ q => absurd q (by simp [ix]))
    · refine c19_2 _ _ _ ⟨fun _ => ⟨⟨h0, h1⟩, ?_⟩, fun q => absurd (by rw [i32_lt]; exact h1) q⟩
      refine ih _ ?_ ?_ ?_ ?_ ?_ ?_ ?_ ?_ ?_ ?_ ?_ (own_fill h0 e k10)
      all_goals simpa [gI_sI, gL_sI]
    · refine c19_2 _ _ _ ⟨fun q => absurd q (by rw [i32_lt, hi]; decide), fun _ => ?_⟩
      have i7 : ix i = 112 := by have := ix_int (i := i) (by omega); omega
      rw [i7] at k10
      refine loop_up (F := fun i => ∀ s, own_K f R s → wpcV PP 19 cm19 11 23 [some (.ref 0), some (.int i)] [] s _) 784 (by decide) (fun i h0 h1 e ih s k => ?_) (fun i hi s k => ?_) 0 (by decide) (by decide) s ⟨k0, k1, k2, k3, k4, k5, k6, k7, k8, k9, k10, k11⟩
      · refine c19_23 _ _ _ ⟨fun _ => ⟨⟨h0, h1⟩, ih _ ?_⟩, fun q => absurd (by rw [i32_lt]; exact h1) q⟩
        obtain ⟨k0, k1, k2, k3, k4, k5, k6, k7, k8, k9, k10, k11⟩ := k
        refine ⟨?_, ?_, ?_, ?_, ?_, ?_, ?_, ?_, ?_, ?_, ?_, ?_⟩
        · simpa [gI_sI] using k0
        · simpa [gI_sI] using k1
        · simpa [gI_sI] using k2
        · simpa [gI_sI] using k3
        · simpa [gI_sI] using k4
        · simpa [gI_sI] using k5
        · simpa [gI_sI] using k6
        · simpa [gI_sI] using k7
        · simpa [gL_sI] using k8
        · simpa [gI_sI] using k9
        · simpa [gI_sI] using k10
        · intro j; simp [gI_sI, k11]
      · exact c19_23 _ _ _ ⟨fun q => absurd q (by rw [i32_lt, hi]; decide), fun _ => h f R s rfl rfl k⟩

/-- how many of the first -/
def own_ct (f : Nat → Bool) : Nat → Nat
  | 0 => 0
  | n + 1 => own_ct f n + (if f n then 1 else 0)
theorem own_ct_cg {f g : Nat → Bool} : ∀ n, (∀ c, c < n → f c = g c) → own_ct f n = own_ct g n
  | 0, _ => rfl
  | n + 1, h => by
    show own_ct f n + _ = own_ct g n + _
    rw [own_ct_cg n fun c hc => h c (by omega), h n (by omega)]
theorem own_ct_le {f : Nat → Bool} : ∀ n, own_ct f n ≤ n
  | 0 => Nat.le_refl _
  | n + 1 => by
    show own_ct f n + _ ≤ _
    have := own_ct_le (f := f) n
    split <;> omega
theorem own_i32 (i : Int32) (h0 : 0 ≤ i.toInt) : i = Int32.ofNat (ix i) := by
  have k := ix_int h0
  have r := rng32 i
  rw [i32_eq, Int32.toInt_ofNat_of_lt (by omega)]; omega
theorem own_22g (s : St) (hR : gI s 0 20 = 1) (Q : Int32 → St → Prop) (h : Q 1 s) : calI PP 22 11 [.ref 0, .int 1] s Q :=
  c22_in _ _ _ ⟨fun q => absurd q (by decide), fun _ => ⟨fun q => absurd q (by rw [hR]; decide), fun _ => h⟩⟩
theorem own_23g (s : St) (ph : Int32) (hp : ph = 0 ∨ ph = 1) (Q : Int32 → St → Prop) (h : Q 1 s) : calI PP 23 11 [.ref 0, .int ph] s Q :=
  c23_in _ _ _ ⟨fun _ => h, fun a => ⟨fun _ => h, fun b => absurd hp (by rintro (w | w) <;> contradiction)⟩⟩
theorem own_21g (s : St) (p : Int32) (hp : 0 ≤ p.toInt ∧ p.toInt < 7) (Q : Int32 → St → Prop) (h : Q 1 s) : calI PP 21 11 [.ref 0, .int p] s Q := own_21 s p _ (fun _ _ => h) (fun q => absurd hp q)
theorem own_31g (s : St) (p d ph : Int32) (hp : 0 ≤ p.toInt ∧ p.toInt < 7) (hd : 0 ≤ d.toInt ∧ d.toInt < 7) (hh : ph = 0 ∨ ph = 1) (hR : gI s 0 20 = 1) (Q : Int32 → St → Prop) (h : Q 1 s) : calI PP 31 11 [.ref 0, .int p, .int d, .int 1, .int ph] s Q := by
  apply c31_in
  exact own_21g s p hp _ ⟨fun q => absurd q (by decide), fun _ => own_21g s d hd _ ⟨fun q => absurd q (by decide), fun _ => own_22g s hR _ ⟨fun q => absurd q (by decide), fun _ => own_23g s ph hh _ h⟩⟩⟩
theorem own_cx {p d ph : Int32} (hp : 0 ≤ p.toInt ∧ p.toInt < 7) (hd : 0 ≤ d.toInt ∧ d.toInt < 7) (hh : 0 ≤ ph.toInt ∧ ph.toInt < 2) : inb 784 (((p * 7 + d) * 8 + (1 - 1)) * 2 + ph) ∧ ix (((p * 7 + d) * 8 + (1 - 1)) * 2 + ph) = 16 * (7 * ix p + ix d) + ix ph := by
  have e1 : (p * 7).toInt = p.toInt * 7 := by rw [i32_mul] <;> simp <;> omega
  have e2 : (p * 7 + d).toInt = p.toInt * 7 + d.toInt := by rw [i32_add] <;> rw [e1] <;> omega
  generalize p * 7 + d = w at e2 ⊢
  have z : ∀ y : Int32, y + (1 - 1) = y := fun y => by simp
  rw [z]
  have e3 : (w * 8).toInt = w.toInt * 8 := by rw [i32_mul] <;> simp <;> omega
  have e4 : (w * 8 * 2).toInt = w.toInt * 8 * 2 := by rw [i32_mul] <;> rw [e3] <;> simp <;> omega
  have e5 : (w * 8 * 2 + ph).toInt = w.toInt * 8 * 2 + ph.toInt := by rw [i32_add] <;> rw [e4] <;> omega
  have a := ix_int hp.1
  have b := ix_int hd.1
  have f := ix_int hh.1
  have c := ix_int (i := w * 8 * 2 + ph) (by omega)
  exact ⟨⟨by omega, by show _ < (784 : Int); omega⟩, by omega⟩
theorem own_sx {p ph : Int32} (hp : 0 ≤ p.toInt ∧ p.toInt < 7) (hh : 0 ≤ ph.toInt ∧ ph.toInt < 2) : inb 112 ((p * 8 + (1 - 1)) * 2 + ph) ∧ ix ((p * 8 + (1 - 1)) * 2 + ph) = 16 * ix p + ix ph := by
  have z : ∀ y : Int32, y + (1 - 1) = y := fun y => by simp
  rw [z]
  have e3 : (p * 8).toInt = p.toInt * 8 := by rw [i32_mul] <;> simp <;> omega
  have e4 : (p * 8 * 2).toInt = p.toInt * 8 * 2 := by rw [i32_mul] <;> rw [e3] <;> simp <;> omega
  have e5 : (p * 8 * 2 + ph).toInt = p.toInt * 8 * 2 + ph.toInt := by rw [i32_add] <;> rw [e4] <;> omega
  have a := ix_int hp.1
  have f := ix_int hh.1
  have c := ix_int (i := p * 8 * 2 + ph) (by omega)
  exact ⟨⟨by omega, by show _ < (112 : Int); omega⟩, by omega⟩
theorem own_hh {ph : Int32} (hh : ph = 0 ∨ ph = 1) : 0 ≤ ph.toInt ∧ ph.toInt < 2 := by
  rcases hh with rfl | rfl <;> decide
theorem own_34g (s : St) (p d ph : Int32) (hp : 0 ≤ p.toInt ∧ p.toInt < 7) (hd : 0 ≤ d.toInt ∧ d.toInt < 7) (hh : ph = 0 ∨ ph = 1) (hR : gI s 0 20 = 1) (Q : Int32 → St → Prop) (h : Q (gI s 11 (16 * (7 * ix p + ix d) + ix ph)) s) : calI PP 34 11 [.ref 0, .int p, .int d, .int 1, .int ph] s Q := by
  obtain ⟨f1, f2⟩ := own_cx hp hd (own_hh hh)
  apply c34_in
  refine own_31g s p d ph hp hd hh hR _ ⟨fun q => absurd q (by decide), fun _ => c30_in _ _ _ _ _ _ ⟨f1, ?_⟩⟩
  rw [f2]; exact h
theorem own_35g (s : St) (p d ph v : Int32) (hp : 0 ≤ p.toInt ∧ p.toInt < 7) (hd : 0 ≤ d.toInt ∧ d.toInt < 7) (hh : ph = 0 ∨ ph = 1) (hR : gI s 0 20 = 1) (Q : St → Prop) (h : Q (sI s 11 (16 * (7 * ix p + ix d) + ix ph) v)) : calV PP 35 11 [.ref 0, .int p, .int d, .int 1, .int ph, .int v] s Q := by
  obtain ⟨f1, f2⟩ := own_cx hp hd (own_hh hh)
  apply c35_in
  refine own_31g s p d ph hp hd hh hR _ ⟨fun q => absurd q (by decide), fun _ => c30_in _ _ _ _ _ _ ⟨f1, ?_⟩⟩
  rw [f2]; exact h
theorem own_32g (s : St) (p ph : Int32) (hp : 0 ≤ p.toInt ∧ p.toInt < 7) (hh : ph = 0 ∨ ph = 1) (hR : gI s 0 20 = 1) (Q : Int32 → St → Prop) (h : Q (gI s 10 (16 * ix p + ix ph)) s) : calI PP 32 11 [.ref 0, .int p, .int 1, .int ph] s Q := by
  obtain ⟨f1, f2⟩ := own_sx hp (own_hh hh)
  apply c32_in
  refine own_31g s p 0 ph hp (by decide) hh hR _ ⟨fun q => absurd q (by decide), fun _ => c29_in _ _ _ _ _ ⟨f1, ?_⟩⟩
  rw [f2]; exact h
/-- broadcast -/
theorem own_36g (s : St) (p ph v : Int32) (hp : 0 ≤ p.toInt ∧ p.toInt < 7) (hh : ph = 0 ∨ ph = 1) (hv : v = 0 ∨ v = 1 ∨ v = 2) (hR : gI s 0 20 = 1) (Q : St → Prop) (h : ∀ t, (∀ c j, c ≠ 10 → c ≠ 11 → gI t c j = gI s c j) → (∀ c j, gL t c j = gL s c j) → (∀ j, gI t 10 j = if j = 16 * ix p + ix ph then v else gI s 10 j) → (∀ j, (∀ d, d < 7 → j ≠ 16 * (7 * ix p + d) + ix ph) → gI t 11 j = gI s 11 j) → (∀ d, d < 7 → gI t 11 (16 * (7 * ix p + d) + ix ph) = 1) → Q t) : calV PP 36 11 [.ref 0, .int p, .int 1, .int ph, .int v] s Q := by
  apply c36_in
  have c25 : ∀ Q : Int32 → St → Prop, Q 1 s → calI PP 25 11 [.ref 0, .int v] s Q := fun Q hq => c25_in _ _ _ ⟨fun _ => hq, fun a => ⟨fun _ => hq, fun b => ⟨fun _ => hq, fun c => absurd hv (by rintro (w | w | w) <;> contradiction)⟩⟩⟩
  refine c25 _ ⟨fun q => absurd q (by decide), fun _ => ?_⟩
  apply c33_in
  obtain ⟨f1, f2⟩ := own_sx hp (own_hh hh)
  refine own_31g s p 0 ph hp (by decide) hh hR _ ⟨fun q => absurd q (by decide), fun _ => c29_in _ _ _ _ _ ⟨f1, ?_⟩⟩
  rw [f2]
  refine loop_up (F := fun i => ∀ u, (∀ c j, c ≠ 10 → c ≠ 11 → gI u c j = gI s c j) → (∀ c j, gL u c j = gL s c j) → (∀ j, gI u 10 j = if j = 16 * ix p + ix ph then v else gI s 10 j) → (∀ j, (∀ d, d < 7 → j ≠ 16 * (7 * ix p + d) + ix ph) → gI u 11 j = gI s 11 j) → (∀ d, d < ix i → gI u 11 (16 * (7 * ix p + d) + ix ph) = 1) → wpcV PP 36 cm36 11 22 [some (.ref 0), some (.int p), some (.int 1), some (.int ph), none, some (.int i)] [] u Q) 7 (by decide) (fun i h0 h1 e ih u ua ul u10 u11 ud => ?_) (fun i hi u ua ul u10 u11 ud => ?_) 0 (by decide) (by decide) _ (fun c j a b => by rw [gI_sI, if_neg (fun k => a k.1)]) (fun c j => by rw [gL_sI]) (fun j => ?_) (fun j _ => by rw [gI_sI, if_neg (by omega)]) (fun d hd => absurd hd (by simp [ix]))
  · have xi := ix_int h0
    have xj := ix_int (i := i + 1) (by omega)
    refine c36_22 _ _ _ _ _ _ ⟨fun _ => own_35g u p i ph 1 hp ⟨h0, h1⟩ hh (by rw [ua 0 _ (by decide) (by decide)]; exact hR) _ ?_, fun q => absurd (by rw [i32_lt]; exact h1) q⟩
    refine ih _ (fun c j a b => by rw [gI_sI, if_neg (fun k => b k.1)]; exact ua c j a b) (fun c j => by rw [gL_sI]; exact ul c j) (fun j => by rw [gI_sI, if_neg (by omega)]; exact u10 j) (fun j hj => ?_) (fun d hd => ?_)
    · rw [gI_sI, if_neg (fun k => hj (ix i) (by omega) k.2)]; exact u11 j hj
    · rw [gI_sI]
      by_cases w : d = ix i
      · rw [if_pos ⟨rfl, by rw [w]⟩]
      · rw [if_neg (by omega)]; exact ud d (by omega)
  · have xi := ix_int (i := i) (by omega)
    exact c36_22 _ _ _ _ _ _ ⟨fun q => absurd q (by rw [i32_lt, hi]; decide), fun _ => h u ua ul u10 u11 fun d hd => ud d (by omega)⟩
  · rw [gI_sI]
    by_cases w : j = 16 * ix p + ix ph
    · rw [if_pos ⟨rfl, w⟩, if_pos w]
    · rw [if_neg (fun k => w k.2), if_neg w]
/-- heldCount -/
theorem own_40g (s : St) (d ph : Int32) (hd : 0 ≤ d.toInt ∧ d.toInt < 7) (hh : ph = 0 ∨ ph = 1) (hR : gI s 0 20 = 1) (Q : Int32 → St → Prop) (h : ∀ c : Int32, c.toInt = own_ct (fun k => gI s 11 (16 * (7 * k + ix d) + ix ph) == 2) 7 → Q c s) : calI PP 40 11 [.ref 0, .int d, .int 1, .int ph] s Q := by
  apply c40_in
  refine loop_up (F := fun i => ∀ x : Int32, x.toInt = own_ct (fun k => gI s 11 (16 * (7 * k + ix d) + ix ph) == 2) (ix i) → wpcI PP 40 cm40 11 6 [some (.ref 0), some (.int d), some (.int 1), some (.int ph), some (.int x), some (.int i)] [] s Q) 7 (by decide) (fun i i0 i1 e ih x hx => ?_) (fun i hi x hx => ?_) 0 (by decide) (by decide) 0 rfl
  · have xi := ix_int i0
    have xj := ix_int (i := i + 1) (by omega)
    refine c40_6 _ _ _ _ _ _ _ ⟨fun _ => own_34g s i d ph ⟨i0, i1⟩ hd hh hR _ fun m em => ih m ?_, fun q => absurd (by rw [i32_lt]; exact i1) q⟩
    have le := own_ct_le (f := fun k => gI s 11 (16 * (7 * k + ix d) + ix ph) == 2) (ix i)
    rw [show ix (i + 1) = ix i + 1 by omega]
    show _ = ((own_ct (fun k => gI s 11 (16 * (7 * k + ix d) + ix ph) == 2) (ix i) + (if (gI s 11 (16 * (7 * ix i + ix d) + ix ph) == 2) = true then 1 else 0) : Nat) : Int)
    rw [em]
    by_cases w : gI s 11 (16 * (7 * ix i + ix d) + ix ph) = 2
    · rw [if_pos w, if_pos (by simp [w])]
      have : (x + 1).toInt = x.toInt + 1 := by rw [i32_add] <;> simp <;> omega
      rw [this, hx]; rfl
    · rw [if_neg w, if_neg (by simp [w]), hx]; rfl
  · have : ix i = 7 := by have := ix_int (i := i) (by omega); omega
    rw [this] at hx
    exact c40_6 _ _ _ _ _ _ _ ⟨fun q => absurd q (by rw [i32_lt, hi]; decide), fun _ => h x hx⟩
/-- heldValueCount -/
theorem own_41g (s : St) (d ph v : Int32) (hd : 0 ≤ d.toInt ∧ d.toInt < 7) (hh : ph = 0 ∨ ph = 1) (hR : gI s 0 20 = 1) (Q : Int32 → St → Prop) (h : ∀ c : Int32, c.toInt = own_ct (fun k => gI s 11 (16 * (7 * k + ix d) + ix ph) == 2 && gI s 10 (16 * k + ix ph) == v) 7 → Q c s) : calI PP 41 11 [.ref 0, .int d, .int 1, .int ph, .int v] s Q := by
  apply c41_in
  refine loop_up (F := fun i => ∀ x : Int32, x.toInt = own_ct (fun k => gI s 11 (16 * (7 * k + ix d) + ix ph) == 2 && gI s 10 (16 * k + ix ph) == v) (ix i) → wpcI PP 41 cm41 11 6 [some (.ref 0), some (.int d), some (.int 1), some (.int ph), some (.int v), some (.int x), some (.int i)] [] s Q) 7 (by decide) (fun i i0 i1 e ih x hx => ?_) (fun i hi x hx => ?_) 0 (by decide) (by decide) 0 rfl
  · have xi := ix_int i0
    have xj := ix_int (i := i + 1) (by omega)
    have le := own_ct_le (f := fun k => gI s 11 (16 * (7 * k + ix d) + ix ph) == 2 && gI s 10 (16 * k + ix ph) == v) (ix i)
    have st : (own_ct (fun k => gI s 11 (16 * (7 * k + ix d) + ix ph) == 2 && gI s 10 (16 * k + ix ph) == v) (ix (i + 1)) : Nat) = own_ct (fun k => gI s 11 (16 * (7 * k + ix d) + ix ph) == 2 && gI s 10 (16 * k + ix ph) == v) (ix i) + (if (gI s 11 (16 * (7 * ix i + ix d) + ix ph) == 2 && gI s 10 (16 * ix i + ix ph) == v) = true then 1 else 0) := by
      rw [show ix (i + 1) = ix i + 1 by omega]; rfl
    have e1 : (x + 1).toInt = x.toInt + 1 := by rw [i32_add] <;> simp <;> omega
    refine c41_6 _ _ _ _ _ _ _ _ ⟨fun _ => own_34g s i d ph ⟨i0, i1⟩ hd hh hR _ ⟨fun w => own_32g s i ph ⟨i0, i1⟩ hh hR _ fun m em => c41_42 _ _ _ _ _ _ _ _ (ih m ?_), fun w => c41_42 _ _ _ _ _ _ _ _ (ih x ?_)⟩, fun q => absurd (by rw [i32_lt]; exact i1) q⟩
    · rw [st, em]
      by_cases y : gI s 10 (16 * ix i + ix ph) = v
      · rw [if_pos y, if_pos (by simp [w, y]), e1, hx]; rfl
      · rw [if_neg y, if_neg (by simp [y]), hx]; rfl
    · rw [st, if_neg (by simp [w]), hx]; rfl
  · have : ix i = 7 := by have := ix_int (i := i) (by omega); omega
    rw [this] at hx
    exact c41_6 _ _ _ _ _ _ _ _ ⟨fun q => absurd q (by rw [i32_lt, hi]; decide), fun _ => h x hx⟩
/-- stepOnce: not enough held -/
theorem own_43n (s : St) (p : Int32) (hp : 0 ≤ p.toInt ∧ p.toInt < 7) (hR : gI s 0 20 = 1) (h21 : gI s 0 21 = 4) (h1 : gI s 1 (ix p) = 1) (h4 : gI s 4 (ix p) = 1) (h5 : gI s 5 (ix p) = 0 ∨ gI s 5 (ix p) = 1) (hc : own_ct (fun k => gI s 11 (16 * (7 * k + ix p) + ix (gI s 5 (ix p))) == 2) 7 < 4) (Q : Int32 → St → Prop) (h : Q 0 s) : calI PP 43 11 [.ref 0, .int p] s Q := by
  apply c43_in
  rw [h4]
  refine ⟨hp, fun _ => ⟨hp, hp, own_22g s hR _ ⟨fun q => absurd q (by decide), fun _ => own_23g s _ h5 _ ⟨fun q => absurd q (by decide), fun _ => own_40g s p _ hp h5 hR _ fun c ec => ⟨fun _ => h, fun q => absurd ?_ q⟩⟩⟩⟩, fun q => absurd h1 q⟩
  rw [h21, i32_lt, ec]; show _ < (4 : Int); omega
/-- where the run stands: n inputs, d1 receivers done with the reports and g1 senders at the next, d2 and g2 for the proposals -/
def own_I (v : Nat → Int32) (w E Dc Dr Fl : Int32) (sd Cs : Int64) (n d1 g1 d2 g2 : Nat) (s : St) : Prop :=
  (gI s 0 19 = 3 ∧ gI s 0 20 = 1 ∧ gI s 0 21 = 4) ∧ (∀ p, p < 7 → gI s 1 p = if p < d2 then 2 else if p < n then 1 else 0) ∧ (∀ p, p < n → gI s 2 p = v p) ∧ (∀ p, p < n → gI s 3 p = if p < d2 then E else v p) ∧ (∀ p, p < n → gI s 4 p = 1) ∧ (∀ p, p < n → gI s 5 p = if p < d1 then 1 else 0) ∧ (∀ p, p < 7 → gI s 6 p = if p < d2 then Dc else -1) ∧ (∀ p, p < 7 → gI s 7 p = if p < d2 then Dr else 0) ∧ (∀ p, p < n → gL s 8 p = if p < d2 then Cs else sd) ∧ (∀ p, p < 7 → gI s 9 p = if p < d2 then Fl else 0) ∧ (∀ p, p < n → gI s 10 (16 * p) = v p) ∧ (∀ p, p < d1 → gI s 10 (16 * p + 1) = w) ∧ (∀ a e, a < 7 → e < 7 → gI s 11 (16 * (7 * a + e)) = if a < n then (if e < d1 ∨ e = d1 ∧ a < g1 then 2 else 1) else 0) ∧ (∀ a e, a < 7 → e < 7 → gI s 11 (16 * (7 * a + e) + 1) = if a < d1 then (if e < d2 ∨ e = d2 ∧ a < g2 then 2 else 1) else 0)
/-- step that stops at once -/
theorem own_42n (s : St) (p : Int32) (hp : 0 ≤ p.toInt ∧ p.toInt < 7) (hR : gI s 0 20 = 1) (Q : St → Prop) (h : calI PP 43 11 [.ref 0, .int p] s (fun v t => (v = 0 → Q t) ∧ (¬ v = 0 → calI PP 43 11 [.ref 0, .int p] t (fun v u => v = 0 ∧ Q u)))) : calV PP 42 11 [.ref 0, .int p] s Q := by
  apply c42_in
  refine own_21g s p hp _ ⟨fun q => absurd q (by decide), fun _ => ?_⟩
  rw [hR]
  refine c42_20 _ _ _ _ _ ⟨fun _ => ?_, fun q => absurd (by decide) q⟩
  refine calI.mono h fun v t ⟨h1, h2⟩ => ⟨h1, fun nz => c42_20 _ _ _ _ _ ⟨fun _ => ?_, fun q => absurd (by decide) q⟩⟩
  exact calI.mono (h2 nz) fun v u ⟨e, q⟩ => ⟨fun _ => q, fun z => absurd e z⟩
theorem own_ct_dec (m : Nat) (hm : m < 8) : own_ct (fun k => decide (k < m)) 7 = m := by
  have : ∀ m : Fin 8, own_ct (fun k => decide (k < m.val)) 7 = m.val := by decide
  exact this ⟨m, hm⟩
theorem own_ct_0 {f : Nat → Bool} (h : ∀ k, k < 7 → f k = false) : own_ct f 7 = 0 := by
  rw [own_ct_cg (f := f) (g := fun _ => false) 7 h]; decide
/-- setInput -/
theorem own_set (v : Nat → Int32) (w E Dc Dr Fl : Int32) (sd Cs : Int64) (n : Nat) (hn : n < 4) (p x sh sl : Int32) (p0 : 0 ≤ p.toInt) (pn : ix p = n) (ex : x = v n) (hv : v n = 0 ∨ v n = 1) (es : ((Int32.toInt64 sh) <<< (((32 : Int32)).toInt64 &&& 63)) ||| ((Int32.toInt64 sl) &&& (4294967295 : Int64)) = sd) (s : St) (I : own_I v w E Dc Dr Fl sd Cs n 0 0 0 0 s) (Q : Int32 → St → Prop) (h : ∀ t, own_I v w E Dc Dr Fl sd Cs (n + 1) 0 0 0 0 t → Q 1 t) : calI PP 2 11 [.ref 0, .int p, .int x, .int sh, .int sl] s Q := by
  obtain ⟨⟨k19, k20, k21⟩, k1, k2, k3, k4, k5, k6, k7, k8, k9, k10, k10', k11, k11'⟩ := I
  have xp := ix_int p0
  have hp : 0 ≤ p.toInt ∧ p.toInt < 7 := by omega
  have B : inb 7 p := hp
  subst ex
  apply c2_in
  refine own_21g s p hp _ ⟨fun q => absurd q (by decide), fun _ => ?_⟩
  have c24 : ∀ Q : Int32 → St → Prop, Q 1 s → calI PP 24 11 [.ref 0, .int (v n)] s Q := fun Q h => c24_in _ _ _ ⟨fun _ => h, fun a => ⟨fun _ => h, fun b => absurd hv (by rintro (w | w) <;> contradiction)⟩⟩
  refine c24 _ ⟨fun q => absurd q (by decide), fun _ => ⟨B, fun _ => ⟨B, B, c28_in _ _ _ _ ⟨B, B, B, B, ?_⟩⟩, fun q => absurd (by rw [pn, k1 n (by omega), if_neg (by omega), if_neg (by omega)]) q⟩⟩
  rw [es, pn]
  generalize hT : (sI (sI (sI (sL (sI (sI s 2 n (v n)) 3 n (v n)) 8 n sd) 1 n 1) 4 n 1) 5 n 0) = T
  have tc : ∀ c j, c ≠ 1 → c ≠ 2 → c ≠ 3 → c ≠ 4 → c ≠ 5 → gI T c j = gI s c j := fun c j a1 a2 a3 a4 a5 => by subst hT; simp [gI_sI, gI_sL, a1, a2, a3, a4, a5]
  have t1 : ∀ j, gI T 1 j = if j = n then 1 else gI s 1 j := fun j => by subst hT; simp [gI_sI, gI_sL]
  have t2 : ∀ j, gI T 2 j = if j = n then v n else gI s 2 j := fun j => by subst hT; simp [gI_sI, gI_sL]
  have t3 : ∀ j, gI T 3 j = if j = n then v n else gI s 3 j := fun j => by subst hT; simp [gI_sI, gI_sL]
  have t4 : ∀ j, gI T 4 j = if j = n then 1 else gI s 4 j := fun j => by subst hT; simp [gI_sI, gI_sL]
  have t5 : ∀ j, gI T 5 j = if j = n then 0 else gI s 5 j := fun j => by subst hT; simp [gI_sI, gI_sL]
  have t8 : ∀ j, gL T 8 j = if j = n then sd else gL s 8 j := fun j => by subst hT; simp [gL_sI, gL_sL]
  clear hT
  have T20 : gI T 0 20 = 1 := by rw [tc 0 _ (by decide) (by decide) (by decide) (by decide) (by decide), k20]
  refine own_36g T p 0 (v n) hp (Or.inl rfl) (hv.imp id Or.inl) T20 _ fun U ua ul u10 u11 ud => ?_
  rw [pn] at u10 u11 ud
  have z0 : ix (0 : Int32) = 0 := by decide
  rw [z0] at u10 u11 ud
  simp only [Nat.add_zero] at u10 u11 ud
  have us : ∀ c j, c ≠ 1 → c ≠ 2 → c ≠ 3 → c ≠ 4 → c ≠ 5 → c ≠ 10 → c ≠ 11 → gI U c j = gI s c j := fun c j a1 a2 a3 a4 a5 b1 b2 => by rw [ua c j b1 b2, tc c j a1 a2 a3 a4 a5]
  have s11 : ∀ j, gI T 11 j = gI s 11 j := fun j => tc 11 j (by decide) (by decide) (by decide) (by decide) (by decide)
  have IU : own_I v w E Dc Dr Fl sd Cs (n + 1) 0 0 0 0 U := by
    refine ⟨⟨by rw [us 0 _ (by decide) (by decide) (by decide) (by decide) (by decide) (by decide) (by decide), k19], by rw [us 0 _ (by decide) (by decide) (by decide) (by decide) (by decide) (by decide) (by decide), k20], by rw [us 0 _ (by decide) (by decide) (by decide) (by decide) (by decide) (by decide) (by decide), k21]⟩, fun q hq => ?_, fun q hq => ?_, fun q hq => ?_, fun q hq => ?_, fun q hq => ?_, fun q hq => ?_, fun q hq => ?_, fun q hq => ?_, fun q hq => ?_, fun q hq => ?_, fun q hq => ?_, fun a e ha he => ?_, fun a e ha he => ?_⟩
    · rw [ua 1 _ (by decide) (by decide), t1]
      by_cases y : q = n
      · rw [if_pos y, if_neg (by omega), if_pos (by omega)]
      · rw [if_neg y, k1 q hq, if_neg (show ¬ q < 0 by omega)]
        by_cases z : q < n
        · rw [if_pos z, if_neg (by omega), if_pos (by omega)]
        · rw [if_neg z, if_neg (by omega), if_neg (by omega)]
    · rw [ua 2 _ (by decide) (by decide), t2]
      by_cases y : q = n
      · rw [if_pos y, y]
      · rw [if_neg y, k2 q (by omega)]
    · rw [ua 3 _ (by decide) (by decide), t3, if_neg (show ¬ q < 0 by omega)]
      by_cases y : q = n
      · rw [if_pos y, y]
      · rw [if_neg y, k3 q (by omega), if_neg (by omega)]
    · rw [ua 4 _ (by decide) (by decide), t4]
      by_cases y : q = n
      · rw [if_pos y]
      · rw [if_neg y, k4 q (by omega)]
    · rw [ua 5 _ (by decide) (by decide), t5, if_neg (show ¬ q < 0 by omega)]
      by_cases y : q = n
      · rw [if_pos y]
      · rw [if_neg y, k5 q (by omega), if_neg (by omega)]
    · rw [us 6 _ (by decide) (by decide) (by decide) (by decide) (by decide) (by decide) (by decide), k6 q hq]
    · rw [us 7 _ (by decide) (by decide) (by decide) (by decide) (by decide) (by decide) (by decide), k7 q hq]
    · rw [ul, t8, if_neg (show ¬ q < 0 by omega)]
      by_cases y : q = n
      · rw [if_pos y]
      · rw [if_neg y, k8 q (by omega), if_neg (by omega)]
    · rw [us 9 _ (by decide) (by decide) (by decide) (by decide) (by decide) (by decide) (by decide), k9 q hq]
    · rw [u10]
      by_cases y : q = n
      · rw [if_pos (by omega), y]
      · rw [if_neg (by omega), tc 10 _ (by decide) (by decide) (by decide) (by decide) (by decide), k10 q (by omega)]
    · omega
    · rw [if_neg (show ¬ (e < 0 ∨ e = 0 ∧ a < 0) by omega)]
      by_cases y : a = n
      · rw [y, ud e he, if_pos (by omega)]
      · rw [u11 _ (fun d hd => by omega), s11, k11 a e ha he, if_neg (show ¬ (e < 0 ∨ e = 0 ∧ a < 0) by omega)]
        by_cases z : a < n
        · rw [if_pos z, if_pos (by omega)]
        · rw [if_neg z, if_neg (by omega)]
    · rw [u11 _ (fun d hd => by omega), s11, k11' a e ha he]
  refine own_42n U p hp (IU.1.2.1) _ ?_
  have u5 : gI U 5 (ix p) = 0 := by rw [pn, IU.2.2.2.2.2.1 n (by omega), if_neg (by omega)]
  refine own_43n U p hp IU.1.2.1 IU.1.2.2 (by rw [pn, IU.2.1 n (by omega), if_neg (by omega), if_pos (by omega)]) (by rw [pn, IU.2.2.2.2.1 n (by omega)]) (Or.inl u5) ?_ _ ⟨fun _ => h U IU, fun q => absurd rfl q⟩
  rw [u5, z0, pn, own_ct_0]
  · omega
  · intro k hk
    show (gI U 11 (16 * (7 * k + n)) == 2) = false
    rw [IU.2.2.2.2.2.2.2.2.2.2.2.2.1 k n hk (by omega)]
    by_cases y : k < n + 1
    · rw [if_pos y, if_neg (by omega)]; rfl
    · rw [if_neg y]; rfl
theorem own_I_mk {v : Nat → Int32} {w E Dc Dr Fl : Int32} {sd Cs : Int64} {n d1 g1 g1' d2 g2 g2' : Nat} {s t : St} (I : own_I v w E Dc Dr Fl sd Cs n d1 g1 d2 g2 s) (tc : ∀ c j, c ≠ 11 → gI t c j = gI s c j) (tl : ∀ c j, gL t c j = gL s c j) (k11 : ∀ a e, a < 7 → e < 7 → gI t 11 (16 * (7 * a + e)) = if a < n then (if e < d1 ∨ e = d1 ∧ a < g1' then 2 else 1) else 0) (k11' : ∀ a e, a < 7 → e < 7 → gI t 11 (16 * (7 * a + e) + 1) = if a < d1 then (if e < d2 ∨ e = d2 ∧ a < g2' then 2 else 1) else 0) : own_I v w E Dc Dr Fl sd Cs n d1 g1' d2 g2' t := by
  obtain ⟨k0, k1, k2, k3, k4, k5, k6, k7, k8, k9, k10, k10', _, _⟩ := I
  refine ⟨?_, ?_, ?_, ?_, ?_, ?_, ?_, ?_, ?_, ?_, ?_, ?_, k11, k11'⟩
  · simpa only [tc 0 _ (by decide)] using k0
  · simpa only [tc 1 _ (by decide)] using k1
  · simpa only [tc 2 _ (by decide)] using k2
  · simpa only [tc 3 _ (by decide)] using k3
  · simpa only [tc 4 _ (by decide)] using k4
  · simpa only [tc 5 _ (by decide)] using k5
  · simpa only [tc 6 _ (by decide)] using k6
  · simpa only [tc 7 _ (by decide)] using k7
  · simpa only [tl] using k8
  · simpa only [tc 9 _ (by decide)] using k9
  · simpa only [tc 10 _ (by decide)] using k10
  · simpa only [tc 10 _ (by decide)] using k10'
/-- stepOnce: the reports are in -/
theorem own_43r (s : St) (p w : Int32) (hp : 0 ≤ p.toInt ∧ p.toInt < 7) (hR : gI s 0 20 = 1) (h21 : gI s 0 21 = 4) (h1 : gI s 1 (ix p) = 1) (h4 : gI s 4 (ix p) = 1) (h5 : gI s 5 (ix p) = 0) (hc : 4 ≤ own_ct (fun k => gI s 11 (16 * (7 * k + ix p)) == 2) 7) (hw : w = if 4 ≤ own_ct (fun k => gI s 11 (16 * (7 * k + ix p)) == 2 && gI s 10 (16 * k) == 0) 7 then 0 else if 4 ≤ own_ct (fun k => gI s 11 (16 * (7 * k + ix p)) == 2 && gI s 10 (16 * k) == 1) 7 then 1 else 2) (Q : Int32 → St → Prop) (h : ∀ t, (∀ c j, c ≠ 10 → c ≠ 11 → gI t c j = gI s c j) → (∀ c j, gL t c j = gL s c j) → (∀ j, gI t 10 j = if j = 16 * ix p + 1 then w else gI s 10 j) → (∀ j, (∀ d, d < 7 → j ≠ 16 * (7 * ix p + d) + 1) → gI t 11 j = gI s 11 j) → (∀ d, d < 7 → gI t 11 (16 * (7 * ix p + d) + 1) = 1) → Q 1 (sI t 5 (ix p) 1)) : calI PP 43 11 [.ref 0, .int p] s Q := by
  have z0 : ix (0 : Int32) = 0 := by decide
  have z1 : ix (1 : Int32) = 1 := by decide
  apply c43_in
  rw [h4, h5]
  refine ⟨hp, fun _ => ⟨hp, hp, own_22g s hR _ ⟨fun q => absurd q (by decide), fun _ => own_23g s _ (Or.inl rfl) _ ⟨fun q => absurd q (by decide), fun _ => own_40g s p _ hp (Or.inl rfl) hR _ fun c ec => ⟨fun q => ?_, fun _ => ?_⟩⟩⟩⟩, fun q => absurd h1 q⟩
  · rw [z0] at ec
    rw [h21, i32_lt, ec] at q
    have q : ((own_ct (fun k => gI s 11 (16 * (7 * k + ix p)) == 2) 7 : Nat) : Int) < 4 := q
    omega
  refine own_41g s p 0 0 hp (Or.inl rfl) hR _ fun c0 e0 => own_41g s p 0 1 hp (Or.inl rfl) hR _ fun c1 e1 => ⟨fun _ => ?_, fun q => absurd rfl q⟩
  rw [z0] at e0 e1
  simp only [Nat.add_zero] at e0 e1
  have l0 := own_ct_le (f := fun k => gI s 11 (16 * (7 * k + ix p)) == 2 && gI s 10 (16 * k) == 0) 7
  have l1 := own_ct_le (f := fun k => gI s 11 (16 * (7 * k + ix p)) == 2 && gI s 10 (16 * k) == 1) 7
  have m0 : (2 * c0).toInt = 2 * c0.toInt := by rw [i32_mul] <;> simp <;> omega
  have m1 : (2 * c1).toInt = 2 * c1.toInt := by rw [i32_mul] <;> simp <;> omega
  have e7 : (7 : Int32).toInt = 7 := by decide
  apply c47_in
  have c44 : ∀ R : Int32 → St → Prop, R w s → calI PP 44 11 [.ref 0, .int c0, .int c1] s R := fun R hR => by
    apply c44_in
    rw [i32_lt, i32_lt, m0, m1, e7, e0, e1]
    rw [hw] at hR
    refine ⟨fun a => ?_, fun a => ⟨fun b => ?_, fun b => ?_⟩⟩
    · rw [if_pos (by omega)] at hR; exact hR
    · rw [if_neg (by omega), if_pos (by omega)] at hR; exact hR
    · rw [if_neg (by omega), if_neg (by omega)] at hR; exact hR
  refine c44 _ ?_
  have hw3 : w = 0 ∨ w = 1 ∨ w = 2 := by
    rw [hw]
    by_cases a : 4 ≤ own_ct (fun k => gI s 11 (16 * (7 * k + ix p)) == 2 && gI s 10 (16 * k) == 0) 7
    · rw [if_pos a]; exact Or.inl rfl
    · rw [if_neg a]
      by_cases b : 4 ≤ own_ct (fun k => gI s 11 (16 * (7 * k + ix p)) == 2 && gI s 10 (16 * k) == 1) 7
      · rw [if_pos b]; exact Or.inr (Or.inl rfl)
      · rw [if_neg b]; exact Or.inr (Or.inr rfl)
  refine own_36g s p 1 w hp (Or.inr rfl) hw3 hR _ fun t ta tl t10 t11 td => ⟨hp, ?_⟩
  rw [z1] at t10 t11 td
  exact h t ta tl t10 t11 td
/-- the majority of the four -/
def own_w (v : Nat → Int32) : Int32 := if 4 ≤ own_ct (fun k => decide (k < 4) && v k == 0) 7 then 0 else if 4 ≤ own_ct (fun k => decide (k < 4) && v k == 1) 7 then 1 else 2
/-- deliverPair of a report -/
theorem own_dp0 (v : Nat → Int32) (w E Dc Dr Fl : Int32) (sd Cs : Int64) (hw : w = own_w v) (d g : Nat) (hd : d < 4) (hg : g < 4) (a b : Int32) (a0 : 0 ≤ a.toInt) (b0 : 0 ≤ b.toInt) (ea : ix a = g) (eb : ix b = d) (s : St) (I : own_I v w E Dc Dr Fl sd Cs 4 d g 0 0 s) (Q : Int32 → St → Prop) (h : ∀ t, (g + 1 < 4 → own_I v w E Dc Dr Fl sd Cs 4 d (g + 1) 0 0 t) → (g + 1 = 4 → own_I v w E Dc Dr Fl sd Cs 4 (d + 1) 0 0 0 t) → Q 1 t) : calI PP 39 11 [.ref 0, .int a, .int b, .int 1, .int 0] s Q := by
  have xa := ix_int a0
  have xb := ix_int b0
  have z0 : ix (0 : Int32) = 0 := by decide
  have ha : 0 ≤ a.toInt ∧ a.toInt < 7 := by omega
  have hb : 0 ≤ b.toInt ∧ b.toInt < 7 := by omega
  obtain ⟨⟨k19, k20, k21⟩, k1, k2, k3, k4, k5, k6, k7, k8, k9, k10, k10', k11, k11'⟩ := id I
  have s1 : gI s 1 (ix b) = 1 := by rw [eb, k1 d (by omega), if_neg (by omega), if_pos hd]
  apply c39_in
  refine ⟨hb, fun q => absurd (s1.symm.trans q) (by decide), fun _ => own_34g s a b 0 ha hb (Or.inl rfl) k20 _ ⟨fun _ => own_35g s a b 0 2 ha hb (Or.inl rfl) k20 _ ?_, fun q => absurd ?_ q⟩⟩
  rotate_left
  · rw [ea, eb, z0, Nat.add_zero, k11 g d (by omega) (by omega), if_pos hg, if_neg (by omega)]
  rw [ea, eb, z0, Nat.add_zero]
  generalize hu : sI s 11 (16 * (7 * g + d)) 2 = u
  have uc : ∀ c j, c ≠ 11 → gI u c j = gI s c j := fun c j hc => by subst hu; rw [gI_sI, if_neg (fun q => hc q.1)]
  have ul : ∀ c j, gL u c j = gL s c j := fun c j => by subst hu; rw [gL_sI]
  have u11 : ∀ j, gI u 11 j = if j = 16 * (7 * g + d) then 2 else gI s 11 j := fun j => by subst hu; rw [gI_sI]; simp
  clear hu
  have v11 : ∀ x e, x < 7 → e < 7 → gI u 11 (16 * (7 * x + e)) = if x < 4 then (if e < d ∨ e = d ∧ x < g + 1 then 2 else 1) else 0 := fun x e hx he => by
    rw [u11]
    by_cases y : x = g ∧ e = d
    · rw [if_pos (by omega), if_pos (by omega), if_pos (by omega)]
    · rw [if_neg (by omega), k11 x e hx he]
      by_cases z : x < 4
      · rw [if_pos z, if_pos z]
        by_cases q : e < d ∨ e = d ∧ x < g
        · rw [if_pos q, if_pos (by omega)]
        · rw [if_neg q, if_neg (by omega)]
      · rw [if_neg z, if_neg z]
  have v11' : ∀ x e, x < 7 → e < 7 → gI u 11 (16 * (7 * x + e) + 1) = if x < d then (if e < 0 ∨ e = 0 ∧ x < 0 then 2 else 1) else 0 := fun x e hx he => by
    rw [u11, if_neg (by omega), k11' x e hx he]
  have Iu : own_I v w E Dc Dr Fl sd Cs 4 d (g + 1) 0 0 u := own_I_mk I uc ul v11 v11'
  have cnt : ∀ k, k < 7 → (gI u 11 (16 * (7 * k + d)) == 2) = decide (k < g + 1) := fun k hk => by
    rw [v11 k d hk (by omega)]
    by_cases z : k < 4
    · rw [if_pos z]
      by_cases y : k < g + 1
      · rw [if_pos (Or.inr ⟨rfl, y⟩)]; simp [y]
      · rw [if_neg (by omega)]; simp [y]
    · rw [if_neg z]; have : ¬ k < g + 1 := by omega
      simp [this]
  have u20 : gI u 0 20 = 1 := Iu.1.2.1
  have u21 : gI u 0 21 = 4 := Iu.1.2.2
  have u1 : gI u 1 (ix b) = 1 := by rw [uc 1 _ (by decide), s1]
  have u4 : gI u 4 (ix b) = 1 := by rw [eb, Iu.2.2.2.2.1 d hd]
  have u5 : gI u 5 (ix b) = 0 := by rw [eb, Iu.2.2.2.2.2.1 d hd, if_neg (by omega)]
  have ct1 : own_ct (fun k => gI u 11 (16 * (7 * k + ix b)) == 2) 7 = g + 1 := by
    rw [eb, own_ct_cg 7 cnt, own_ct_dec _ (by omega)]
  refine own_42n u b hb u20 _ ?_
  by_cases full : g + 1 < 4
  · refine own_43n u b hb u20 u21 u1 u4 (Or.inl u5) ?_ _ ⟨fun _ => h u (fun _ => Iu) (fun q => absurd q (by omega)), fun q => absurd rfl q⟩
    rw [u5, z0]
    show own_ct (fun k => gI u 11 (16 * (7 * k + ix b)) == 2) 7 < 4
    omega
  have g3 : g + 1 = 4 := by omega
  have cv : ∀ x : Int32, own_ct (fun k => gI u 11 (16 * (7 * k + ix b)) == 2 && gI u 10 (16 * k) == x) 7 = own_ct (fun k => decide (k < 4) && v k == x) 7 := fun x => own_ct_cg 7 fun k hk => by
    rw [eb, cnt k hk, g3]
    by_cases y : k < 4
    · rw [uc 10 _ (by decide), k10 k y]
    · simp [y]
  refine own_43r u b w hb u20 u21 u1 u4 u5 (by omega) (by rw [cv, cv]; exact hw) _ fun t ta tl t10 t11 td => ⟨fun q => absurd q (by decide), fun _ => ?_⟩
  rw [eb] at t10 t11 td ⊢
  generalize hT : sI t 5 d 1 = T
  have Tc : ∀ c j, c ≠ 5 → gI T c j = gI t c j := fun c j hc => by subst hT; rw [gI_sI, if_neg (fun q => hc q.1)]
  have T5 : ∀ j, gI T 5 j = if j = d then 1 else gI t 5 j := fun j => by subst hT; rw [gI_sI]; simp
  have Tl : ∀ c j, gL T c j = gL t c j := fun c j => by subst hT; rw [gL_sI]
  clear hT
  have Ts : ∀ c j, c ≠ 5 → c ≠ 10 → c ≠ 11 → gI T c j = gI s c j := fun c j c1 c2 c3 => by rw [Tc c j c1, ta c j c2 c3, uc c j c3]
  have IT : own_I v w E Dc Dr Fl sd Cs 4 (d + 1) 0 0 0 T := by
    refine ⟨?_, ?_, ?_, ?_, ?_, fun q hq => ?_, ?_, ?_, ?_, ?_, fun q hq => ?_, fun q hq => ?_, fun x e hx he => ?_, fun x e hx he => ?_⟩
    · simpa only [Ts 0 _ (by decide) (by decide) (by decide)] using I.1
    · simpa only [Ts 1 _ (by decide) (by decide) (by decide)] using k1
    · simpa only [Ts 2 _ (by decide) (by decide) (by decide)] using k2
    · simpa only [Ts 3 _ (by decide) (by decide) (by decide)] using k3
    · simpa only [Ts 4 _ (by decide) (by decide) (by decide)] using k4
    · rw [T5, ta 5 _ (by decide) (by decide), uc 5 _ (by decide), k5 q hq]
      by_cases y : q = d
      · rw [if_pos y, if_pos (by omega)]
      · rw [if_neg y]
        by_cases z : q < d
        · rw [if_pos z, if_pos (by omega)]
        · rw [if_neg z, if_neg (by omega)]
    · simpa only [Ts 6 _ (by decide) (by decide) (by decide)] using k6
    · simpa only [Ts 7 _ (by decide) (by decide) (by decide)] using k7
    · simpa only [Tl, tl, ul] using k8
    · simpa only [Ts 9 _ (by decide) (by decide) (by decide)] using k9
    · rw [Tc 10 _ (by decide), t10, if_neg (by omega), uc 10 _ (by decide), k10 q hq]
    · rw [Tc 10 _ (by decide), t10]
      by_cases y : q = d
      · rw [if_pos (by omega)]
      · rw [if_neg (by omega), uc 10 _ (by decide), k10' q (by omega)]
    · rw [Tc 11 _ (by decide), t11 _ (fun d' hd' => by omega), v11 x e hx he]
      by_cases z : x < 4
      · rw [if_pos z, if_pos z]
        by_cases q : e < d ∨ e = d ∧ x < g + 1
        · rw [if_pos q, if_pos (by omega)]
        · rw [if_neg q, if_neg (by omega)]
      · rw [if_neg z, if_neg z]
    · rw [Tc 11 _ (by decide)]
      by_cases y : x = d
      · rw [y, td e he, if_pos (by omega), if_neg (by omega)]
      · rw [t11 _ (fun d' hd' => by omega), v11' x e hx he]
        by_cases z : x < d
        · rw [if_pos z, if_pos (show x < d + 1 by omega)]
        · rw [if_neg z, if_neg (show ¬ x < d + 1 by omega)]
  have T5b : gI T 5 (ix b) = 1 := by rw [eb, T5, if_pos rfl]
  refine own_43n T b hb IT.1.2.1 IT.1.2.2 (by rw [eb, IT.2.1 d (by omega), if_neg (by omega), if_pos hd]) (by rw [eb, IT.2.2.2.2.1 d hd]) (Or.inr T5b) ?_ _ ⟨rfl, h T (fun q => absurd q full) (fun _ => IT)⟩
  rw [T5b, eb, own_ct_0]
  · omega
  · intro k hk
    show (gI T 11 (16 * (7 * k + d) + 1) == 2) = false
    rw [IT.2.2.2.2.2.2.2.2.2.2.2.2.2 k d hk (by omega), if_neg (show ¬ (d < 0 ∨ d = 0 ∧ k < 0) by omega)]
    split <;> rfl
/-- what the proposals lead to -/
def own_out (w E Dc Dr Fl : Int32) (sd Cs : Int64) : Prop := (w = 2 ∧ E = Int64.toInt32 (XT.ushrL Cs 63) ∧ Dc = -1 ∧ Dr = 0 ∧ Fl = 1 ∧ Cs = sd * 6364136223846793005 + 1442695040888963407) ∨ ((w = 0 ∨ w = 1) ∧ E = w ∧ Dc = w ∧ Dr = 1 ∧ Fl = 0 ∧ Cs = sd)
/-- stepOnce: the proposals are in -/
theorem own_43p (s : St) (p w E Dc Dr Fl : Int32) (sd Cs : Int64) (hp : 0 ≤ p.toInt ∧ p.toInt < 7) (hF : gI s 0 19 = 3) (hR : gI s 0 20 = 1) (h21 : gI s 0 21 = 4) (h1 : gI s 1 (ix p) = 1) (h4 : gI s 4 (ix p) = 1) (h5 : gI s 5 (ix p) = 1) (h6 : gI s 6 (ix p) = -1) (h7 : gI s 7 (ix p) = 0) (h8 : gL s 8 (ix p) = sd) (h9 : gI s 9 (ix p) = 0) (hc : own_ct (fun k => gI s 11 (16 * (7 * k + ix p) + 1) == 2) 7 = 4) (hv : ∀ x : Int32, own_ct (fun k => gI s 11 (16 * (7 * k + ix p) + 1) == 2 && gI s 10 (16 * k + 1) == x) 7 = if w = x then 4 else 0) (O : own_out w E Dc Dr Fl sd Cs) (Q : Int32 → St → Prop) (h : ∀ t, (∀ c j, c ≠ 1 → c ≠ 3 → c ≠ 6 → c ≠ 7 → c ≠ 9 → gI t c j = gI s c j) → (∀ j, gI t 1 j = if j = ix p then 2 else gI s 1 j) → (∀ j, gI t 3 j = if j = ix p then E else gI s 3 j) → (∀ j, gI t 6 j = if j = ix p then Dc else gI s 6 j) → (∀ j, gI t 7 j = if j = ix p then Dr else gI s 7 j) → (∀ j, gL t 8 j = if j = ix p then Cs else gL s 8 j) → (∀ j, gI t 9 j = if j = ix p then Fl else gI s 9 j) → Q 0 t) : calI PP 43 11 [.ref 0, .int p] s Q := by
  have z1 : ix (1 : Int32) = 1 := by decide
  have B : inb 7 p := hp
  have az : (0 : Int32) &&& 1 = 0 := by decide
  apply c43_in
  rw [h4, h5]
  refine ⟨hp, fun _ => ⟨hp, hp, own_22g s hR _ ⟨fun q => absurd q (by decide), fun _ => own_23g s _ (Or.inr rfl) _ ⟨fun q => absurd q (by decide), fun _ => own_40g s p _ hp (Or.inr rfl) hR _ fun c ec => ⟨fun q => ?_, fun _ => ?_⟩⟩⟩⟩, fun q => absurd h1 q⟩
  · rw [z1, hc] at ec
    rw [h21, i32_lt, ec] at q
    exact absurd q (by decide)
  refine own_41g s p 1 0 hp (Or.inr rfl) hR _ fun c0 e0 => own_41g s p 1 1 hp (Or.inr rfl) hR _ fun c1 e1 => ⟨fun q => absurd q (by decide), fun _ => ?_⟩
  rw [z1, hv] at e0 e1
  apply c48_in
  rcases O with ⟨rfl, eE, rfl, rfl, rfl, eC⟩ | ⟨w01, eE, eD, rfl, rfl, rfl⟩
  · have c0z : c0 = 0 := Int32.toInt_inj.mp (by rw [e0]; decide)
    have c1z : c1 = 0 := Int32.toInt_inj.mp (by rw [e1]; decide)
    subst c0z c1z
    refine c45_in _ _ _ _ ⟨fun _ => c45_12 _ _ _ ⟨fun _ => ⟨fun _ => ?_, fun q => absurd rfl q⟩, fun q => absurd (by decide) q⟩, fun q => absurd (by decide) q⟩
    apply c50_in
    rw [h8, h9, ← eC, ← eE]
    clear eC eE
    refine ⟨B, B, B, B, B, c48_44 _ _ _ _ ⟨fun _ => ⟨B, ?_⟩, fun q => absurd (by simp [gI_sI, gI_sL, hR]) q⟩⟩
    show Q ((0 : Int32) &&& 1) _
    rw [az]
    refine h _ (fun c j c1 c3 c6 c7 c9 => by simp [gI_sI, gI_sL, c1, c3, c9]) (fun j => by simp [gI_sI, gI_sL]) (fun j => by simp [gI_sI, gI_sL]) (fun j => ?_) (fun j => ?_) (fun j => by simp [gL_sI, gL_sL]) (fun j => ?_)
    · simp only [gI_sI, gI_sL]; simp
      intro w; rw [w, h6]
    · simp only [gI_sI, gI_sL]; simp
      intro w; rw [w, h7]
    · simp only [gI_sI, gI_sL]; simp
  · have eE' := eE.symm
    have eD' := eD.symm
    subst eE' eD'
    have fin : ∀ x : Int32, calI PP 46 11 [.ref 0, .int x, .int c0, .int c1] s (fun v399 s398 => calV PP 49 11 [.ref 0, .int p, .int (1 : Int32), .int x, .int v399] s398 (fun s401 => wpcI PP 48 cm48 11 44 [some (.ref 0), some (.int p), some (.int (1 : Int32)), none, none, none, none] [] s401 (fun v328 s327 => Q (v328 &&& 1) s327))) ∨ x ≠ w := fun x => by
      by_cases xw : x = w
      · left
        subst xw
        have c46 : ∀ R : Int32 → St → Prop, R 4 s → calI PP 46 11 [.ref 0, .int x, .int c0, .int c1] s R := fun R hR => by
          apply c46_in
          rcases w01 with rfl | rfl
          · have : c0 = 4 := Int32.toInt_inj.mp (by rw [e0]; decide)
            exact ⟨fun _ => by rw [this]; exact hR, fun q => absurd rfl q⟩
          · have : c1 = 4 := Int32.toInt_inj.mp (by rw [e1]; decide)
            exact ⟨fun q => absurd q (by decide), fun _ => by rw [this]; exact hR⟩
        refine c46 _ ?_
        apply c49_in
        rw [h6, hF]
        refine ⟨B, fun _ => ⟨fun q => absurd q (by decide), fun _ => ⟨B, B, c49_35 _ _ _ _ ⟨B, c48_44 _ _ _ _ ⟨fun _ => ⟨B, ?_⟩, fun q => absurd (by simp [gI_sI, hR]) q⟩⟩⟩⟩, fun q => absurd rfl q⟩
        show Q ((0 : Int32) &&& 1) _
        rw [az]
        refine h _ (fun c j c1 c3 c6 c7 c9 => by simp [gI_sI, c1, c3, c6, c7]) (fun j => by simp [gI_sI]) (fun j => by simp [gI_sI]) (fun j => by simp [gI_sI]) (fun j => by simp [gI_sI]) (fun j => ?_) (fun j => ?_)
        · rw [gL_sI, gL_sI, gL_sI, gL_sI]
          split
          · rename_i y; rw [y, h8]
          · rfl
        · simp only [gI_sI]; simp
          intro y; rw [y, h9]
      · exact Or.inr xw
    rcases w01 with rfl | rfl
    · have c0z : c0 = 4 := Int32.toInt_inj.mp (by rw [e0]; decide)
      have c1z : c1 = 0 := Int32.toInt_inj.mp (by rw [e1]; decide)
      have f0 := (fin 0).resolve_right fun q => q rfl
      subst c0z c1z
      exact c45_in _ _ _ _ ⟨fun q => absurd q (by decide), fun _ => ⟨fun q => absurd q (by decide), fun _ => ⟨fun q => absurd q (by decide), fun _ => f0⟩⟩⟩
    · have c0z : c0 = 0 := Int32.toInt_inj.mp (by rw [e0]; decide)
      have c1z : c1 = 4 := Int32.toInt_inj.mp (by rw [e1]; decide)
      have f1 := (fin 1).resolve_right fun q => q rfl
      subst c0z c1z
      exact c45_in _ _ _ _ ⟨fun _ => c45_12 _ _ _ ⟨fun q => absurd q (by decide), fun _ => ⟨fun q => absurd q (by decide), fun _ => f1⟩⟩, fun q => absurd (by decide) q⟩
/-- deliverPair of a proposal -/
theorem own_dp1 (v : Nat → Int32) (w E Dc Dr Fl : Int32) (sd Cs : Int64) (O : own_out w E Dc Dr Fl sd Cs) (d g : Nat) (hd : d < 4) (hg : g < 4) (a b : Int32) (a0 : 0 ≤ a.toInt) (b0 : 0 ≤ b.toInt) (ea : ix a = g) (eb : ix b = d) (s : St) (I : own_I v w E Dc Dr Fl sd Cs 4 4 0 d g s) (Q : Int32 → St → Prop) (h : ∀ t, (g + 1 < 4 → own_I v w E Dc Dr Fl sd Cs 4 4 0 d (g + 1) t) → (g + 1 = 4 → own_I v w E Dc Dr Fl sd Cs 4 4 0 (d + 1) 0 t) → Q 1 t) : calI PP 39 11 [.ref 0, .int a, .int b, .int 1, .int 1] s Q := by
  have xa := ix_int a0
  have xb := ix_int b0
  have z1 : ix (1 : Int32) = 1 := by decide
  have ha : 0 ≤ a.toInt ∧ a.toInt < 7 := by omega
  have hb : 0 ≤ b.toInt ∧ b.toInt < 7 := by omega
  obtain ⟨⟨k19, k20, k21⟩, k1, k2, k3, k4, k5, k6, k7, k8, k9, k10, k10', k11, k11'⟩ := id I
  have s1 : gI s 1 (ix b) = 1 := by rw [eb, k1 d (by omega), if_neg (by omega), if_pos hd]
  apply c39_in
  refine ⟨hb, fun q => absurd (s1.symm.trans q) (by decide), fun _ => own_34g s a b 1 ha hb (Or.inr rfl) k20 _ ⟨fun _ => own_35g s a b 1 2 ha hb (Or.inr rfl) k20 _ ?_, fun q => absurd ?_ q⟩⟩
  rotate_left
  · rw [ea, eb, z1, k11' g d (by omega) (by omega), if_pos hg, if_neg (by omega)]
  rw [ea, eb, z1]
  generalize hu : sI s 11 (16 * (7 * g + d) + 1) 2 = u
  have uc : ∀ c j, c ≠ 11 → gI u c j = gI s c j := fun c j hc => by subst hu; rw [gI_sI, if_neg (fun q => hc q.1)]
  have ul : ∀ c j, gL u c j = gL s c j := fun c j => by subst hu; rw [gL_sI]
  have u11 : ∀ j, gI u 11 j = if j = 16 * (7 * g + d) + 1 then 2 else gI s 11 j := fun j => by subst hu; rw [gI_sI]; simp
  clear hu
  have v11 : ∀ x e, x < 7 → e < 7 → gI u 11 (16 * (7 * x + e)) = if x < 4 then (if e < 4 ∨ e = 4 ∧ x < 0 then 2 else 1) else 0 := fun x e hx he => by
    rw [u11, if_neg (by omega), k11 x e hx he]
  have v11' : ∀ x e, x < 7 → e < 7 → gI u 11 (16 * (7 * x + e) + 1) = if x < 4 then (if e < d ∨ e = d ∧ x < g + 1 then 2 else 1) else 0 := fun x e hx he => by
    rw [u11]
    by_cases y : x = g ∧ e = d
    · rw [if_pos (by omega), if_pos (by omega), if_pos (by omega)]
    · rw [if_neg (by omega), k11' x e hx he]
      by_cases z : x < 4
      · rw [if_pos z, if_pos z]
        by_cases q : e < d ∨ e = d ∧ x < g
        · rw [if_pos q, if_pos (by omega)]
        · rw [if_neg q, if_neg (by omega)]
      · rw [if_neg z, if_neg z]
  have Iu : own_I v w E Dc Dr Fl sd Cs 4 4 0 d (g + 1) u := own_I_mk I uc ul v11 v11'
  have cnt : ∀ k, k < 7 → (gI u 11 (16 * (7 * k + d) + 1) == 2) = decide (k < g + 1) := fun k hk => by
    rw [v11' k d hk (by omega)]
    by_cases z : k < 4
    · rw [if_pos z]
      by_cases y : k < g + 1
      · rw [if_pos (Or.inr ⟨rfl, y⟩)]; simp [y]
      · rw [if_neg (by omega)]; simp [y]
    · rw [if_neg z]; have : ¬ k < g + 1 := by omega
      simp [this]
  have u20 : gI u 0 20 = 1 := Iu.1.2.1
  have u21 : gI u 0 21 = 4 := Iu.1.2.2
  have u1 : gI u 1 (ix b) = 1 := by rw [uc 1 _ (by decide), s1]
  have u4 : gI u 4 (ix b) = 1 := by rw [eb, Iu.2.2.2.2.1 d hd]
  have u5 : gI u 5 (ix b) = 1 := by rw [eb, Iu.2.2.2.2.2.1 d hd, if_pos hd]
  have ct1 : own_ct (fun k => gI u 11 (16 * (7 * k + ix b) + 1) == 2) 7 = g + 1 := by
    rw [eb, own_ct_cg 7 cnt, own_ct_dec _ (by omega)]
  refine own_42n u b hb u20 _ ?_
  by_cases full : g + 1 < 4
  · refine own_43n u b hb u20 u21 u1 u4 (Or.inr u5) ?_ _ ⟨fun _ => h u (fun _ => Iu) (fun q => absurd q (by omega)), fun q => absurd rfl q⟩
    rw [u5, z1]
    omega
  have g3 : g + 1 = 4 := by omega
  have cv : ∀ x : Int32, own_ct (fun k => gI u 11 (16 * (7 * k + ix b) + 1) == 2 && gI u 10 (16 * k + 1) == x) 7 = if w = x then 4 else 0 := fun x => by
    by_cases y : w = x
    · rw [if_pos y, own_ct_cg (g := fun k => decide (k < 4)) 7 fun k hk => ?_, own_ct_dec _ (by omega)]
      rw [eb, cnt k hk, g3]
      by_cases z : k < 4
      · rw [uc 10 _ (by decide), k10' k z, y]; simp
      · simp [z]
    · rw [if_neg y, own_ct_0 fun k hk => ?_]
      rw [eb, cnt k hk, g3]
      by_cases z : k < 4
      · rw [uc 10 _ (by decide), k10' k z]; simp [y]
      · simp [z]
  refine own_43p u b w E Dc Dr Fl sd Cs hb Iu.1.1 u20 u21 u1 u4 u5 (by rw [eb, Iu.2.2.2.2.2.2.1 d (by omega), if_neg (by omega)]) (by rw [eb, Iu.2.2.2.2.2.2.2.1 d (by omega), if_neg (by omega)]) (by rw [eb, Iu.2.2.2.2.2.2.2.2.1 d hd, if_neg (by omega)]) (by rw [eb, Iu.2.2.2.2.2.2.2.2.2.1 d (by omega), if_neg (by omega)]) (by omega) cv O _ fun T Tc T1 T3 T6 T7 T8 T9 => ⟨fun _ => h T (fun q => absurd q full) fun _ => ?_, fun q => absurd rfl q⟩
  rw [eb] at T1 T3 T6 T7 T8 T9
  have Ts : ∀ c j, c ≠ 1 → c ≠ 3 → c ≠ 6 → c ≠ 7 → c ≠ 9 → c ≠ 11 → gI T c j = gI s c j := fun c j c1 c3 c6 c7 c9 c11 => by rw [Tc c j c1 c3 c6 c7 c9, uc c j c11]
  have T11 : ∀ j, gI T 11 j = gI u 11 j := fun j => Tc 11 j (by decide) (by decide) (by decide) (by decide) (by decide)
  have sel : ∀ {α : Type} (q : Nat) (A Bv x : α), (x = if q < d then A else Bv) → (if q = d then A else x) = if q < d + 1 then A else Bv := fun q A Bv x ex => by
    rw [ex]
    by_cases y : q = d
    · rw [if_pos y, if_pos (by omega)]
    · rw [if_neg y]
      by_cases z : q < d
      · rw [if_pos z, if_pos (by omega)]
      · rw [if_neg z, if_neg (by omega)]
  refine ⟨?_, fun q hq => ?_, ?_, fun q hq => ?_, ?_, ?_, fun q hq => ?_, fun q hq => ?_, fun q hq => ?_, fun q hq => ?_, ?_, ?_, fun x e hx he => ?_, fun x e hx he => ?_⟩
  · simpa only [Ts 0 _ (by decide) (by decide) (by decide) (by decide) (by decide) (by decide)] using I.1
  · rw [T1, uc 1 _ (by decide)]; exact sel q _ _ _ (k1 q hq)
  · simpa only [Ts 2 _ (by decide) (by decide) (by decide) (by decide) (by decide) (by decide)] using k2
  · rw [T3, uc 3 _ (by decide)]; exact sel q _ _ _ (k3 q hq)
  · simpa only [Ts 4 _ (by decide) (by decide) (by decide) (by decide) (by decide) (by decide)] using k4
  · simpa only [Ts 5 _ (by decide) (by decide) (by decide) (by decide) (by decide) (by decide)] using k5
  · rw [T6, uc 6 _ (by decide)]; exact sel q _ _ _ (k6 q hq)
  · rw [T7, uc 7 _ (by decide)]; exact sel q _ _ _ (k7 q hq)
  · rw [T8, ul]; exact sel q _ _ _ (k8 q hq)
  · rw [T9, uc 9 _ (by decide)]; exact sel q _ _ _ (k9 q hq)
  · simpa only [Ts 10 _ (by decide) (by decide) (by decide) (by decide) (by decide) (by decide)] using k10
  · simpa only [Ts 10 _ (by decide) (by decide) (by decide) (by decide) (by decide) (by decide)] using k10'
  · rw [T11, v11 x e hx he]
  · rw [T11, v11' x e hx he]
    by_cases z : x < 4
    · rw [if_pos z, if_pos z]
      by_cases q : e < d ∨ e = d ∧ x < g + 1
      · rw [if_pos q, if_pos (by omega)]
      · rw [if_neg q, if_neg (by omega)]
    · rw [if_neg z, if_neg z]
/-- bitSet of 15 -/
theorem own_26g (s : St) (i : Int32) (i0 : 0 ≤ i.toInt) (i1 : i.toInt < 7) (Q : Int32 → St → Prop) (h : Q (if i.toInt < 4 then 1 else 0) s) : calI PP 26 11 [.ref 0, .int 15, .int i] s Q := by
  have xi := ix_int i0
  have key : ∀ n : Fin 7, ((XT.ushr 15 (Int32.ofNat n.val) &&& 1) = 1) ↔ n.val < 4 := by decide
  have k := key ⟨ix i, by omega⟩
  rw [← own_i32 i i0] at k
  simp only at k
  apply c26_in
  refine ⟨fun a => ?_, fun a => ?_⟩
  · have := k.mp a; rw [if_pos (by omega)] at h; exact h
  · rw [if_neg (fun q => a (k.mpr (by omega)))] at h; exact h
/-- deliver -/
theorem own_3g (ph : Int32) (hh : ph = 0 ∨ ph = 1) (B : Nat → Nat → St → Prop) (hR : ∀ d g s, B d g s → gI s 0 20 = 1) (H : ∀ d g, d < 4 → g < 4 → ∀ a b : Int32, 0 ≤ a.toInt → 0 ≤ b.toInt → ix a = g → ix b = d → ∀ s, B d g s → ∀ Q : Int32 → St → Prop, (∀ t, (g + 1 < 4 → B d (g + 1) t) → (g + 1 = 4 → B (d + 1) 0 t) → Q 1 t) → calI PP 39 11 [.ref 0, .int a, .int b, .int 1, .int ph] s Q) (s : St) (hs : B 0 0 s) (Q : Int32 → St → Prop) (h : ∀ t, B 4 0 t → Q 16 t) : calI PP 3 11 [.ref 0, .int 15, .int 15, .int 1, .int ph] s Q := by
  apply c3_in
  refine own_22g s (hR _ _ s hs) _ ⟨fun q => absurd q (by decide), fun _ => own_23g s ph hh _ ⟨fun q => absurd q (by decide), fun _ => ?_⟩⟩
  refine loop_up (F := fun i => ∀ (x : Int32) (s : St), (x.toInt = if i.toInt < 4 then 4 * i.toInt else 16) → B (if i.toInt < 4 then ix i else 4) 0 s → wpcI PP 3 cm3 11 27 [some (.ref 0), some (.int 15), some (.int 15), some (.int 1), some (.int ph), some (.int x), some (.int i)] [] s Q) 7 (by decide) (fun i i0 i1 e ih x s hx hB => ?_) (fun i hi x s hx hB => ?_) 0 (by decide) (by decide) 0 s (by decide) (by rw [if_pos (by decide)]; exact hs)
  · have xi := ix_int i0
    have xj := ix_int (i := i + 1) (by omega)
    refine c3_27 _ _ _ _ _ _ _ _ ⟨fun _ => own_26g s i i0 i1 _ ?_, fun q => absurd (by rw [i32_lt]; exact i1) q⟩
    by_cases i4 : i.toInt < 4
    rotate_left
    · rw [if_neg i4] at hx hB ⊢
      exact ⟨fun _ => c3_59 _ _ _ _ _ _ _ _ (ih x s (by rw [if_neg (by omega), hx]) (by rw [if_neg (by omega)]; exact hB)), fun q => absurd rfl q⟩
    rw [if_pos i4] at hx hB ⊢
    refine ⟨fun q => absurd q (by decide), fun _ => c38_in _ _ _ _ _ _ ?_⟩
    have fin : ∀ (y : Int32) t, y = 4 → B (ix i + 1) 0 t → wpcI PP 3 cm3 11 59 [some (.ref 0), some (.int 15), some (.int 15), some (.int 1), some (.int ph), some (.int (x + y)), some (.int i)] [] t Q := fun y t ey Bt => by
      subst ey
      have ex : (x + 4).toInt = x.toInt + 4 := by rw [i32_add] <;> simp <;> omega
      refine c3_59 _ _ _ _ _ _ _ _ (ih _ t ?_ ?_)
      · rw [ex, hx, e]; split <;> omega
      · by_cases y4 : (i + 1).toInt < 4
        · rw [if_pos y4, show ix (i + 1) = ix i + 1 by omega]; exact Bt
        · rw [if_neg y4, show (4 : Nat) = ix i + 1 by omega]; exact Bt
    refine loop_up (F := fun j => ∀ (y : Int32) (s : St), (y.toInt = if j.toInt < 4 then j.toInt else 4) → B (if j.toInt < 4 then ix i else ix i + 1) (if j.toInt < 4 then ix j else 0) s → wpcI PP 38 cm38 11 6 [some (.ref 0), some (.int 15), some (.int i), some (.int 1), some (.int ph), some (.int y), some (.int j)] [] s (fun v457 s456 => wpcI PP 3 cm3 11 59 [some (.ref 0), some (.int 15), some (.int 15), some (.int 1), some (.int ph), some (.int (x + v457)), some (.int i)] [] s456 Q)) 7 (by decide) (fun j j0 j1 ej ih2 y s hy hB => ?_) (fun j hj y s hy hB => ?_) 0 (by decide) (by decide) 0 s (by decide) (by rw [if_pos (by decide), if_pos (by decide)]; exact hB)
    · have yj := ix_int j0
      have yk := ix_int (i := j + 1) (by omega)
      refine c38_6 _ _ _ _ _ _ _ _ ⟨fun _ => own_26g s j j0 j1 _ ?_, fun q => absurd (by rw [i32_lt]; exact j1) q⟩
      by_cases j4 : j.toInt < 4
      rotate_left
      · rw [if_neg j4] at hy hB ⊢
        rw [if_neg j4] at hB
        exact ⟨fun _ => c38_39 _ _ _ _ _ _ _ _ (ih2 y s (by rw [if_neg (by omega), hy]) (by rw [if_neg (by omega), if_neg (by omega)]; exact hB)), fun q => absurd rfl q⟩
      rw [if_pos j4] at hy hB ⊢
      rw [if_pos j4] at hB
      refine ⟨fun q => absurd q (by decide), fun _ => H (ix i) (ix j) (by omega) (by omega) j i j0 i0 rfl rfl s hB _ fun t t1 t2 m em => c38_39 _ _ _ _ _ _ _ _ (ih2 m t ?_ ?_)⟩
      · have ey : (y + 1).toInt = y.toInt + 1 := by rw [i32_add] <;> simp <;> omega
        rw [em, if_neg (by decide), ey, hy, ej]; split <;> omega
      · by_cases y4 : (j + 1).toInt < 4
        · rw [if_pos y4, if_pos y4, show ix (j + 1) = ix j + 1 by omega]; exact t1 (by omega)
        · rw [if_neg y4, if_neg y4]; exact t2 (by omega)
    · rw [if_neg (by omega)] at hy hB
      rw [if_neg (by omega)] at hB
      exact c38_6 _ _ _ _ _ _ _ _ ⟨fun q => absurd q (by rw [i32_lt, hj]; decide), fun _ => fin y s (Int32.toInt_inj.mp (by rw [hy]; decide)) hB⟩
  · rw [if_neg (by omega)] at hx hB
    refine c3_27 _ _ _ _ _ _ _ _ ⟨fun q => absurd q (by rw [i32_lt, hi]; decide), fun _ => ?_⟩
    rw [show x = 16 from Int32.toInt_inj.mp (by rw [hx]; decide)]
    exact h s hB
theorem own_bit (x : Int32) : x &&& 1 = 0 ∨ x &&& 1 = 1 := by
  have m := Jvm.Kit.i32_mask x 1 (k := 1) (by decide) (by decide)
  have e : ((2 : Int) ^ 1) = 2 := by decide
  rw [e] at m
  have : (x &&& 1).toInt = 0 ∨ (x &&& 1).toInt = 1 := by omega
  exact this.imp (fun q => Int32.toInt_inj.mp (by rw [q]; decide)) (fun q => Int32.toInt_inj.mp (by rw [q]; decide))
theorem law_ok (i0 i1 i2 i3 i4 i5 : Int32) : lalI PP QQ none 0 [.int i0, .int i1, .int i2, .int i3, .int i4, .int i5] W0 (fun v _ => v = 1) := by
  apply l0_in
  refine own_ctor _ _ _ fun f R s ef eR K => ?_
  have f3 : f = 3 := by rw [ef]; decide
  have R1 : R = 1 := by rw [eR]; decide
  subst f3 R1
  clear ef eR
  have b0 := own_bit i0
  have b1 := own_bit i1
  have b2 := own_bit i2
  have b3 := own_bit i3
  generalize i0 &&& 1 = a0 at b0 ⊢
  generalize i1 &&& 1 = a1 at b1 ⊢
  generalize i2 &&& 1 = a2 at b2 ⊢
  generalize i3 &&& 1 = a3 at b3 ⊢
  generalize es : ((Int32.toInt64 i4) <<< (((32 : Int32)).toInt64 &&& 63)) ||| ((Int32.toInt64 i5) &&& (4294967295 : Int64)) = sd
  let v : Nat → Int32 := fun k => if k = 0 then a0 else if k = 1 then a1 else if k = 2 then a2 else a3
  let w := own_w v
  have hwv : w = (if a0 + a1 + a2 + a3 = 0 then 0 else if a0 + a1 + a2 + a3 = 4 then 1 else 2) := by
    show own_w v = _
    rcases b0 with rfl | rfl <;> rcases b1 with rfl | rfl <;> rcases b2 with rfl | rfl <;> rcases b3 with rfl | rfl <;> decide
  have w3 : w = 2 ∨ w = 0 ∨ w = 1 := by
    rw [hwv]
    by_cases x : a0 + a1 + a2 + a3 = 0
    · rw [if_pos x]; exact Or.inr (Or.inl rfl)
    · rw [if_neg x]
      by_cases y : a0 + a1 + a2 + a3 = 4
      · rw [if_pos y]; exact Or.inr (Or.inr rfl)
      · rw [if_neg y]; exact Or.inl rfl
  rw [← hwv]
  obtain ⟨⟨k19, k20, k21, k22⟩, k1, k2, k3, k4, k5, k6, k7, k8, k9, k10, k11⟩ := K
  have I0 : ∀ E Dc Dr Fl Cs, own_I v w E Dc Dr Fl sd Cs 0 0 0 0 0 s := fun E Dc Dr Fl Cs => by
    refine ⟨⟨k19, k20, by rw [k21]; decide⟩, fun q hq => ?_, fun q hq => absurd hq (by omega), fun q hq => absurd hq (by omega), fun q hq => absurd hq (by omega), fun q hq => absurd hq (by omega), fun q hq => ?_, fun q hq => ?_, fun q hq => absurd hq (by omega), fun q hq => ?_, fun q hq => absurd hq (by omega), fun q hq => absurd hq (by omega), fun a e ha he => ?_, fun a e ha he => ?_⟩
    · rw [k1, if_neg (by omega), if_neg (by omega)]
    · rw [k6 q hq, if_neg (by omega)]
    · rw [k7, if_neg (by omega)]
    · rw [k9, if_neg (by omega)]
    · rw [k11, if_neg (by omega)]
    · rw [k11, if_neg (by omega)]
  let Cs : Int64 := if w = 2 then sd * 6364136223846793005 + 1442695040888963407 else sd
  let E : Int32 := if w = 2 then Int64.toInt32 (XT.ushrL (sd * 6364136223846793005 + 1442695040888963407) 63) else w
  let Dc : Int32 := if w = 2 then -1 else w
  let Dr : Int32 := if w = 2 then 0 else 1
  let Fl : Int32 := if w = 2 then 1 else 0
  have O : own_out w E Dc Dr Fl sd Cs := by
    rcases w3 with x | x
    · have ec : Cs = sd * 6364136223846793005 + 1442695040888963407 := if_pos x
      exact Or.inl ⟨x, by rw [ec]; exact if_pos x, if_pos x, if_pos x, if_pos x, ec⟩
    · have nx : ¬ w = 2 := by rcases x with x | x <;> rw [x] <;> decide
      exact Or.inr ⟨x, if_neg nx, if_neg nx, if_neg nx, if_neg nx, if_neg nx⟩
  have J0 := I0 E Dc Dr Fl Cs
  clear I0 k19 k20 k21 k22 k1 k2 k3 k4 k5 k6 k7 k8 k9 k10 k11
  refine own_set v w E Dc Dr Fl sd Cs 0 (by decide) 0 _ i4 i5 (by decide) (by decide) rfl b0 es s J0 _ fun s J => ⟨fun q => absurd q (by decide), fun _ => ?_⟩
  refine own_set v w E Dc Dr Fl sd Cs 1 (by decide) 1 _ i4 i5 (by decide) (by decide) rfl b1 es s J _ fun s J => ⟨fun q => absurd q (by decide), fun _ => ?_⟩
  refine own_set v w E Dc Dr Fl sd Cs 2 (by decide) 2 _ i4 i5 (by decide) (by decide) rfl b2 es s J _ fun s J => ⟨fun q => absurd q (by decide), fun _ => ?_⟩
  refine own_set v w E Dc Dr Fl sd Cs 3 (by decide) 3 _ i4 i5 (by decide) (by decide) rfl b3 es s J _ fun s J => ⟨fun q => absurd q (by decide), fun _ => ?_⟩
  refine own_3g 0 (Or.inl rfl) (fun d g s => own_I v w E Dc Dr Fl sd Cs 4 d g 0 0 s) (fun d g s I => I.1.2.1) (fun d g hd hg a b a0 b0 ea eb s I Q h => own_dp0 v w E Dc Dr Fl sd Cs rfl d g hd hg a b a0 b0 ea eb s I Q h) s J _ fun s J => ⟨fun _ => ?_, fun q => absurd rfl q⟩
  refine own_3g 1 (Or.inr rfl) (fun d g s => own_I v w E Dc Dr Fl sd Cs 4 4 0 d g s) (fun d g s I => I.1.2.1) (fun d g hd hg a b a0 b0 ea eb s I Q h => own_dp1 v w E Dc Dr Fl sd Cs O d g hd hg a b a0 b0 ea eb s I Q h) s J _ fun s J => ⟨fun _ => ?_, fun q => absurd rfl q⟩
  intro m39 e39 m42 e42 m45 e45 m48 e48 m51 e51 m54 e54
  subst e39 e42 e45 e48 e51 e54
  obtain ⟨⟨k19, k20, k21⟩, k1, k2, k3, k4, k5, k6, k7, k8, k9, k10, k10', k11, k11'⟩ := J
  refine loop_up (F := fun i => wplI PP QQ none 0 lm0 287 [none, none, none, none, none, none, some (.ref 1), none, none, none, none, none, none, none, some (.int w), none, none, none, none, none, some (.int Dc), some (.int Dr), some (.int E), some (.int Fl), some (.long Cs), none, some (.int i), none, none, none, none, none, none, none, none] [] (W1 s) (fun v _ => v = 1)) 4 (by decide) (fun i i0 i1 e ih => ?_) (fun i hi => ?_) 0 (by decide) (by decide)
  · have xi := ix_int i0
    have hi : 0 ≤ i.toInt ∧ i.toInt < 7 := by omega
    have B : inb 7 i := hi
    have z1 : ix (1 : Int32) = 1 := by decide
    have lt : ix i < 4 := by omega
    refine l0_287 _ _ _ _ _ _ _ _ ⟨fun _ => ?_, fun q => absurd (by rw [i32_lt]; exact i1) q⟩
    refine c5_in _ _ _ (own_21g s i hi _ ⟨fun q => absurd q (by decide), fun _ => ⟨B, ?_⟩⟩)
    refine c12_in _ _ _ _ _ (own_21g s i hi _ ⟨fun q => absurd q (by decide), fun _ => own_22g s k20 _ ⟨fun q => absurd q (by decide), fun _ => own_23g s 1 (Or.inr rfl) _ ⟨fun q => absurd q (by decide), fun _ => own_32g s i 1 hi (Or.inr rfl) k20 _ ?_⟩⟩⟩)
    refine c10_in _ _ _ (own_21g s i hi _ ⟨fun q => absurd q (by decide), fun _ => ⟨B, ?_⟩⟩)
    refine c11_in _ _ _ (own_21g s i hi _ ⟨fun q => absurd q (by decide), fun _ => ⟨B, ?_⟩⟩)
    have vn : ¬ v (ix i) = -1 := by
      have key : ∀ x : Int32, x = 0 ∨ x = 1 → ¬ x = -1 := fun x hx => by rcases hx with rfl | rfl <;> decide
      show ¬ (if ix i = 0 then a0 else if ix i = 1 then a1 else if ix i = 2 then a2 else a3) = -1
      split
      · exact key _ b0
      · split
        · exact key _ b1
        · split
          · exact key _ b2
          · exact key _ b3
    refine c8_in _ _ _ (own_21g s i hi _ ⟨fun q => absurd q (by decide), fun _ => c27_in _ _ _ ⟨B, fun q => absurd ((k2 _ lt).symm.trans q) vn, fun _ => ⟨fun q => absurd q (by decide), fun _ => ⟨B, ?_⟩⟩⟩⟩)
    refine c14_in _ _ _ (own_21g s i hi _ ⟨fun q => absurd q (by decide), fun _ => ⟨B, ?_⟩⟩)
    refine c15_in _ _ _ (own_21g s i hi _ ⟨fun q => absurd q (by decide), fun _ => ⟨B, ?_⟩⟩)
    have r1 : gI s 1 (ix i) = 2 := by rw [k1 _ (by omega), if_pos lt]
    have r10 : gI s 10 (16 * ix i + ix 1) = w := by rw [z1, k10' _ lt]
    have r6 : gI s 6 (ix i) = Dc := by rw [k6 _ (by omega), if_pos lt]
    have r7 : gI s 7 (ix i) = Dr := by rw [k7 _ (by omega), if_pos lt]
    have r3 : gI s 3 (ix i) = E := by rw [k3 _ lt, if_pos lt]
    have r9 : gI s 9 (ix i) = Fl := by rw [k9 _ (by omega), if_pos lt]
    have r8 : gL s 8 (ix i) = Cs := by rw [k8 _ lt, if_pos lt]
    exact ⟨fun _ => ⟨fun _ => ⟨fun _ => ⟨fun _ => ⟨fun _ => ⟨fun _ => ⟨fun _ => ih, fun q => absurd (cmpL_eq.mpr r8) q⟩, fun q => absurd r9 q⟩, fun q => absurd r3 q⟩, fun q => absurd r7 q⟩, fun q => absurd r6 q⟩, fun q => absurd r10 q⟩, fun q => absurd r1 q⟩
  · exact l0_287 _ _ _ _ _ _ _ _ ⟨fun q => absurd q (by rw [i32_lt, hi]; decide), fun _ => rfl⟩
theorem comes_1 {Post : Tables → Env → Array Value → State → Outcome → State → Prop} (hpost : ∀ tb e args s v u, (limb_1_1.after args s (.returned v) u = true ∧ limb_1_2.after args s (.returned v) u = true ∧ True) → FrameEnd s (.returned v) u (Jvm.fieldLocs frame_1_writes args s ++ Jvm.arrayLocs frame_1_arrays args s ++ Jvm.staticLocs frame_1_statics s) 32 2048 → Post tb e args s (.returned v) u) :
    ArmFor flags0 classFile x code maxLocals ret World_1 tables_1 room_1 Calls_1 rest_1 Pre_1 Post := by
  intro l hfl _ _ p e ha hc hk s m args below hf hA hF happ hP
  obtain ⟨hcalls, hrest, hpre⟩ := hP
  obtain ⟨-, -, -, hnamed, -, -, -, hat⟩ := (Spec.applies_iff hf).mp happ
  obtain ⟨hg, hn⟩ := and_e (Cond.before_iff.mp (show (Jvm.Cond.and given_1 narrow_1).before args s = true from hpre))
  obtain ⟨h1, g0⟩ := and_e hg
  obtain ⟨w0, w1, w2, w3, w4, w5, rfl⟩ : ∃ w0 w1 w2 w3 w4 w5 : Value, args = #[w0, w1, w2, w3, w4, w5] := by
    have hs : args.size = 6 := by simpa [Cond.value, given_1] using h1
    obtain ⟨L⟩ := args
    match L, hs with
    | [w0, w1, w2, w3, w4, w5], _ => exact ⟨w0, w1, w2, w3, w4, w5, rfl⟩
  have hw := fun d (hd : d ∈ tables_1) => atoms_spec (ws := Jvm.Cond.code x code maxLocals ret :: tables_1) hat d (List.mem_cons_of_mem _ hd)
  have hfit : Fit s := fun {y c} hc i hi => by
    obtain ⟨ha, rfl⟩ := Array.getElem?_eq_some_iff.mp hc
    have q := List.all_eq_true.mp ((Array.all_eq_true_iff_forall_mem.mp hF) _ (Array.getElem_mem ha)) i (List.mem_range.mpr hi)
    simpa [Array.getElem?_eq_getElem hi] using q
  obtain ⟨q0, g1⟩ := and_e g0
  obtain ⟨i0, e0⟩ := is_v q0
  obtain rfl : w0 = (.int i0) := Option.some.inj e0
  obtain ⟨q1, g2⟩ := and_e g1
  obtain ⟨i1, e1⟩ := is_v q1
  obtain rfl : w1 = (.int i1) := Option.some.inj e1
  obtain ⟨q2, g3⟩ := and_e g2
  obtain ⟨i2, e2⟩ := is_v q2
  obtain rfl : w2 = (.int i2) := Option.some.inj e2
  obtain ⟨q3, g4⟩ := and_e g3
  obtain ⟨i3, e3⟩ := is_v q3
  obtain rfl : w3 = (.int i3) := Option.some.inj e3
  obtain ⟨q4, g5⟩ := and_e g4
  obtain ⟨i4, e4⟩ := is_v q4
  obtain rfl : w4 = (.int i4) := Option.some.inj e4
  have q5 := g5
  obtain ⟨i5, e5⟩ := is_v q5
  obtain rfl : w5 = (.int i5) := Option.some.inj e5
  obtain ⟨f, w0, hr⟩ := law_run (law_ok i0 i1 i2 i3 i4 i5) (me := lm0) rfl
  have M : MetFree l x (head1 (Jvm.Cond.code x code maxLocals ret :: tables_1) room_1) (fun b U => b = #[.int i0, .int i1, .int i2, .int i3, .int i4, .int i5] ∧ s.Warmed39 U.vm ∧ U.heap = s.heap) (fun _ _ _ _ _ => True) (fun _ U o U' => ∃ u L, o = .returned u ∧ (u = some (.int 1) ∧ Fr s.heap.size L) ∧ FrameEnd U o U' L 32 2048) :=
    law_met (lkC s _ hw) (lkL s _ hw) (sc := none) (a := 0) (me := lm0) rfl l (bytes := code) (chk_ok dk_l0) (as := [.int i0, .int i1, .int i2, .int i3, .int i4, .int i5]) rfl (Nat.le_of_ble_eq_true rfl) hr trivial
  obtain ⟨n, o, h1, h2, h3, _, L, rfl, ⟨rfl, N⟩, hq⟩ := M p e ha hc hk s m _ below hf ((Spec.applies_iff_loose hf).mp happ).1 ⟨rfl, State.Warmed39.refl s, rfl⟩ trivial
  refine ⟨n, _, h1, h2, h3, hpost _ _ _ _ _ _ ⟨Cond.after_iff.mpr rfl, Cond.after_iff.mpr (eq_i res_at (Term.int_eval (1)) rfl), trivial⟩ ⟨hq.1, hq.2.1, (hq.2.2.sift fun y hy => Or.inr (N y hy)).mono (by decide) (by decide)⟩⟩
theorem main_1_1 : Claimed_1_1 := comes_1 fun _ _ _ _ _ _ h hF => ⟨h.1, hF⟩
theorem main_1_2 : Claimed_1_2 := comes_1 fun _ _ _ _ _ _ h hF => ⟨h.2.1, hF⟩
end Jvm.Pilot.@@N@@
namespace Jvm.Pilot.@@N@@
open Jvm Jvm.ClassFile Sem Op Lib Jvm.Free Jvm.Stand Jvm.Pilot.@@N@@.Jvm.D
/-! MADE BY PROGRAM (witnessworld.py) out of the Statement's table words and the real class files: 11 classes; the members and pool entries that the words name. The judged class is class 1, her method 1. -/
namespace start1
open Jvm.ClassFile
def u (s : String) : CpInfo := .utf8 (stringToUtf16 s)
/-- a pool by its gaps: so many unusable entries, then the entry; so many at the end -/
def gap : Nat → List CpInfo → List CpInfo
  | 0, r => r
  | n + 1, r => .unusable :: gap n r
def poolList (es : List (Nat × CpInfo)) (last : Nat) : List CpInfo := es.foldr (fun e r => gap e.1 (e.2 :: r)) (gap last [])
def pool (es : List (Nat × CpInfo)) (last : Nat) : Array CpInfo := ⟨poolList es last⟩
def fileOf (pool : Array CpInfo) (this : Nat) (attrs : Array Attribute := #[]) (ms : Array MethodInfo := #[]) (fl : Nat := 33) (sup : Nat := 0) (ifs : Array Nat := #[]) (fds : Array FieldInfo := #[]) : ClassFile where
  minorVersion := 0
  majorVersion := 65
  constantPool := pool
  accessFlags := fl
  thisClass := this
  superClass := sup
  interfaces := ifs
  fields := fds
  methods := ms
  attributes := attrs
def plain (name : String) (sup : Option ClassId) : Class where
  name := name
  kind := .ordinary
  loader := none
  accessFlags := 33
  super := sup
  interfaces := #[]
  cf := none
  fields := #[]
  methods := #[]
  instanceTypes := #[]
  staticTypes := #[]
  resolved := #[]
  callSites := []
  init := .initialized
  statics := none
  mirror := none

def pool0 : Array CpInfo := pool [(5, u "<init>"), (0, u "()V"), (1, .class_ 10), (1, u "java/lang/Object")] 113

def k0c0 : Code := { maxStack := 0, maxLocals := 1, code := object_method_1_code, exceptionTable := #[], attributes := #[] }
def k0m0 : Method := { name := "<init>", desc := "()V", sig := { parameters := [], returnType := none }, accessFlags := 1, code := some k0c0 }
/-- java/lang/Object -/
def k0 : Class := { plain "java/lang/Object" none with
  accessFlags := 33
  interfaces := #[]
  cf := some (fileOf pool0 8 #[] #[{ accessFlags := 1, nameIndex := 5, descriptorIndex := 6, attributes := #[] }] 33 0 #[] #[])
  fields := #[]
  methods := #[k0m0]
  instanceTypes := #[]
  staticTypes := #[]
  resolved := Array.replicate 124 none
  statics := none }

def pool1 : Array CpInfo := pool [(2, .class_ 4), (1, u "java/lang/Object"), (0, u "<init>"), (0, u "()V"), (0, .class_ 8), (0, u "RandomConsensus"), (0, .methodref 7 10), (0, .nameAndType 5 11), (0, u "(II)V"), (0, .methodref 7 13), (0, .nameAndType 14 15), (0, u "setInput"), (0, u "(IIII)Z"), (0, .methodref 7 17), (0, .nameAndType 18 19), (0, u "deliver"), (0, u "(IIII)I"), (0, .long 4294967295), (1, .long 6364136223846793005), (1, .long 1442695040888963407), (1, .methodref 7 27), (0, .nameAndType 28 29), (0, u "status"), (0, u "(I)I"), (0, .methodref 7 31), (0, .nameAndType 32 33), (0, u "sentValue"), (0, u "(III)I"), (0, .methodref 7 35), (0, .nameAndType 36 29), (0, u "decision"), (0, .methodref 7 38), (0, .nameAndType 39 29), (0, u "decisionRound"), (0, .methodref 7 41), (0, .nameAndType 42 29), (0, u "estimate"), (0, .methodref 7 44), (0, .nameAndType 45 29), (0, u "coinFlips"), (0, .methodref 7 47), (0, .nameAndType 48 49), (0, u "coinState"), (0, u "(I)J"), (0, .class_ 51), (0, u "RandomConsensusL3"), (2, u "law"), (0, u "(IIIIII)Z")] 3

def k1m0 : Method := { name := "<init>", desc := "()V", sig := { parameters := [], returnType := none }, accessFlags := 1, code := none }
def k1c1 : Code := { maxStack := 6, maxLocals := 35, code := code, exceptionTable := #[], attributes := #[] }
def k1m1 : Method := { name := "law", desc := "(IIIIII)Z", sig := { parameters := [.int, .int, .int, .int, .int, .int], returnType := some .boolean }, accessFlags := 9, code := some k1c1 }
/-- RandomConsensusL3 -/
def k1 : Class := { plain "RandomConsensusL3" (some 0) with
  accessFlags := 33
  interfaces := #[]
  cf := some (fileOf pool1 50 #[] #[{ accessFlags := 1, nameIndex := 5, descriptorIndex := 6, attributes := #[] }, { accessFlags := 9, nameIndex := 54, descriptorIndex := 55, attributes := #[] }] 33 2 #[] #[])
  fields := #[]
  methods := #[k1m0, k1m1]
  instanceTypes := #[]
  staticTypes := #[]
  resolved := Array.replicate 59 none
  statics := none }

def pool2 : Array CpInfo := pool [(1, .methodref 2 3), (0, .class_ 4), (0, .nameAndType 5 6), (0, u "java/lang/Object"), (0, u "<init>"), (0, u "()V"), (0, .fieldref 8 9), (0, .class_ 10), (0, .nameAndType 11 12), (0, u "RandomConsensus"), (0, u "procStatus"), (0, u "[I"), (0, .fieldref 8 14), (0, .nameAndType 15 12), (0, u "procInput"), (0, .fieldref 8 17), (0, .nameAndType 18 12), (0, u "procEstimate"), (0, .fieldref 8 20), (0, .nameAndType 21 12), (0, u "procRound"), (0, .fieldref 8 23), (0, .nameAndType 24 12), (0, u "procPhase"), (0, .fieldref 8 26), (0, .nameAndType 27 12), (0, u "procDecision"), (0, .fieldref 8 29), (0, .nameAndType 30 12), (0, u "procDecisionRound"), (0, .fieldref 8 32), (0, .nameAndType 33 34), (0, u "procCoin"), (0, u "[J"), (0, .fieldref 8 36), (0, .nameAndType 37 12), (0, u "procFlips"), (0, .fieldref 8 39), (0, .nameAndType 40 12), (0, u "sentValues"), (0, .fieldref 8 42), (0, .nameAndType 43 12), (0, u "copyStates"), (0, .methodref 8 45), (0, .nameAndType 46 47), (0, u "clamp"), (0, u "(III)I"), (0, .fieldref 8 49), (0, .nameAndType 50 51), (0, u "faultLimit"), (0, u "I"), (0, .fieldref 8 53), (0, .nameAndType 54 51), (0, u "roundLimit"), (0, .fieldref 8 56), (0, .nameAndType 57 51), (0, u "quorum"), (0, .fieldref 8 59), (0, .nameAndType 60 51), (0, u "crashTotal"), (0, .methodref 8 62), (0, .nameAndType 63 6), (0, u "resetAllProcesses"), (0, .methodref 8 65), (0, .nameAndType 66 6), (0, u "resetAllMessages"), (0, .methodref 8 68), (0, .nameAndType 69 70), (0, u "validProcess"), (0, u "(I)Z"), (0, .methodref 8 72), (0, .nameAndType 73 70), (0, u "validInputValue"), (0, .methodref 8 75), (0, .nameAndType 76 77), (0, u "composeSeed"), (0, u "(II)J"), (0, .methodref 8 79), (0, .nameAndType 80 81), (0, u "broadcast"), (0, u "(IIII)V"), (0, .methodref 8 83), (0, .nameAndType 84 85), (0, u "step"), (0, u "(I)V"), (0, .methodref 8 87), (0, .nameAndType 88 70), (0, u "validRound"), (0, .methodref 8 90), (0, .nameAndType 91 70), (0, u "validPhase"), (0, .methodref 8 93), (0, .nameAndType 94 95), (0, u "bitSet"), (0, u "(II)Z"), (0, .methodref 8 97), (0, .nameAndType 98 99), (0, u "deliverToReceiver"), (0, u "(IIII)I"), (3, u "(II)V"), (0, .methodref 8 105), (0, .nameAndType 106 70), (0, u "hasInput"), (0, .methodref 8 108), (0, .nameAndType 109 47), (0, u "readSent"), (0, .methodref 8 111), (0, .nameAndType 112 99), (0, u "readCopy"), (0, .methodref 8 114), (0, .nameAndType 115 85), (0, u "resetProcess"), (0, .long 4294967295), (1, .methodref 8 119), (0, .nameAndType 120 121), (0, u "validSlot"), (0, u "(IIII)Z"), (0, .methodref 8 123), (0, .nameAndType 124 47), (0, u "sentIndex"), (0, .methodref 8 126), (0, .nameAndType 127 99), (0, u "copyIndex"), (0, .methodref 8 129), (0, .nameAndType 130 70), (0, u "validMessageValue"), (0, .methodref 8 132), (0, .nameAndType 133 81), (0, u "writeSent"), (0, .methodref 8 135), (0, .nameAndType 136 137), (0, u "writeCopy"), (0, u "(IIIII)V"), (0, .methodref 8 139), (0, .nameAndType 140 121), (0, u "deliverPair"), (0, .methodref 8 142), (0, .nameAndType 143 70), (0, u "stepOnce"), (0, .methodref 8 145), (0, .nameAndType 146 47), (0, u "heldCount"), (0, .methodref 8 148), (0, .nameAndType 149 99), (0, u "heldValueCount"), (0, .methodref 8 151), (0, .nameAndType 152 81), (0, u "finishReportPhase"), (0, .methodref 8 154), (0, .nameAndType 155 121), (0, u "finishProposalPhase"), (0, .methodref 8 157), (0, .nameAndType 158 159), (0, u "reportOutcome"), (0, u "(II)I"), (0, .methodref 8 161), (0, .nameAndType 162 159), (0, u "proposalOutcome"), (0, .methodref 8 164), (0, .nameAndType 165 85), (0, u "drawCoin"), (0, .methodref 8 167), (0, .nameAndType 168 47), (0, u "countFor"), (0, .methodref 8 170), (0, .nameAndType 171 81), (0, u "adoptValue"), (3, .long 6364136223846793005), (1, .long 1442695040888963407), (1, u "N"), (2, u "REPORT"), (1, u "PROPOSAL"), (1, u "NONE"), (1, u "BOTTOM"), (1, u "UNDECIDED"), (0, u "IDLE"), (0, u "RUNNING"), (0, u "DONE"), (0, u "CRASHED"), (1, u "NOT_SENT"), (0, u "IN_TRANSIT"), (0, u "DELIVERED"), (0, u "LOST"), (0, u "MAX_FAULTS"), (0, u "MAX_ROUNDS"), (1, u "COIN_MUL"), (0, u "J"), (0, u "COIN_ADD"), (2, u "setInput"), (1, u "deliver"), (1, u "status"), (0, u "(I)I"), (2, u "estimate"), (1, u "decision"), (0, u "decisionRound"), (0, u "sentValue"), (1, u "coinFlips"), (0, u "coinState"), (0, u "(I)J")] 4

def k2c0 : Code := { maxStack := 5, maxLocals := 3, code := prog_1_method_1_code, exceptionTable := #[], attributes := #[] }
def k2m0 : Method := { name := "<init>", desc := "(II)V", sig := { parameters := [.int, .int], returnType := none }, accessFlags := 1, code := some k2c0 }
def k2c1 : Code := { maxStack := 5, maxLocals := 5, code := prog_1_method_2_code, exceptionTable := #[], attributes := #[] }
def k2m1 : Method := { name := "setInput", desc := "(IIII)Z", sig := { parameters := [.int, .int, .int, .int], returnType := some .boolean }, accessFlags := 1, code := some k2c1 }
def k2c2 : Code := { maxStack := 6, maxLocals := 7, code := prog_1_method_3_code, exceptionTable := #[], attributes := #[] }
def k2m2 : Method := { name := "deliver", desc := "(IIII)I", sig := { parameters := [.int, .int, .int, .int], returnType := some .int }, accessFlags := 1, code := some k2c2 }
def k2c3 : Code := { maxStack := 2, maxLocals := 2, code := prog_1_method_5_code, exceptionTable := #[], attributes := #[] }
def k2m3 : Method := { name := "status", desc := "(I)I", sig := { parameters := [.int], returnType := some .int }, accessFlags := 1, code := some k2c3 }
def k2c4 : Code := { maxStack := 2, maxLocals := 2, code := prog_1_method_8_code, exceptionTable := #[], attributes := #[] }
def k2m4 : Method := { name := "estimate", desc := "(I)I", sig := { parameters := [.int], returnType := some .int }, accessFlags := 1, code := some k2c4 }
def k2c5 : Code := { maxStack := 2, maxLocals := 2, code := prog_1_method_10_code, exceptionTable := #[], attributes := #[] }
def k2m5 : Method := { name := "decision", desc := "(I)I", sig := { parameters := [.int], returnType := some .int }, accessFlags := 1, code := some k2c5 }
def k2c6 : Code := { maxStack := 2, maxLocals := 2, code := prog_1_method_11_code, exceptionTable := #[], attributes := #[] }
def k2m6 : Method := { name := "decisionRound", desc := "(I)I", sig := { parameters := [.int], returnType := some .int }, accessFlags := 1, code := some k2c6 }
def k2c7 : Code := { maxStack := 4, maxLocals := 4, code := prog_1_method_12_code, exceptionTable := #[], attributes := #[] }
def k2m7 : Method := { name := "sentValue", desc := "(III)I", sig := { parameters := [.int, .int, .int], returnType := some .int }, accessFlags := 1, code := some k2c7 }
def k2c8 : Code := { maxStack := 2, maxLocals := 2, code := prog_1_method_14_code, exceptionTable := #[], attributes := #[] }
def k2m8 : Method := { name := "coinFlips", desc := "(I)I", sig := { parameters := [.int], returnType := some .int }, accessFlags := 1, code := some k2c8 }
def k2c9 : Code := { maxStack := 2, maxLocals := 2, code := prog_1_method_15_code, exceptionTable := #[], attributes := #[] }
def k2m9 : Method := { name := "coinState", desc := "(I)J", sig := { parameters := [.int], returnType := some .long }, accessFlags := 1, code := some k2c9 }
def k2c10 : Code := { maxStack := 2, maxLocals := 2, code := prog_1_method_17_code, exceptionTable := #[], attributes := #[] }
def k2m10 : Method := { name := "resetAllProcesses", desc := "()V", sig := { parameters := [], returnType := none }, accessFlags := 2, code := some k2c10 }
def k2c11 : Code := { maxStack := 4, maxLocals := 2, code := prog_1_method_18_code, exceptionTable := #[], attributes := #[] }
def k2m11 : Method := { name := "resetProcess", desc := "(I)V", sig := { parameters := [.int], returnType := none }, accessFlags := 2, code := some k2c11 }
def k2c12 : Code := { maxStack := 3, maxLocals := 2, code := prog_1_method_19_code, exceptionTable := #[], attributes := #[] }
def k2m12 : Method := { name := "resetAllMessages", desc := "()V", sig := { parameters := [], returnType := none }, accessFlags := 2, code := some k2c12 }
def k2c13 : Code := { maxStack := 2, maxLocals := 4, code := prog_1_method_20_code, exceptionTable := #[], attributes := #[] }
def k2m13 : Method := { name := "clamp", desc := "(III)I", sig := { parameters := [.int, .int, .int], returnType := some .int }, accessFlags := 2, code := some k2c13 }
def k2c14 : Code := { maxStack := 2, maxLocals := 2, code := prog_1_method_21_code, exceptionTable := #[], attributes := #[] }
def k2m14 : Method := { name := "validProcess", desc := "(I)Z", sig := { parameters := [.int], returnType := some .boolean }, accessFlags := 2, code := some k2c14 }
def k2c15 : Code := { maxStack := 2, maxLocals := 2, code := prog_1_method_22_code, exceptionTable := #[], attributes := #[] }
def k2m15 : Method := { name := "validRound", desc := "(I)Z", sig := { parameters := [.int], returnType := some .boolean }, accessFlags := 2, code := some k2c15 }
def k2c16 : Code := { maxStack := 2, maxLocals := 2, code := prog_1_method_23_code, exceptionTable := #[], attributes := #[] }
def k2m16 : Method := { name := "validPhase", desc := "(I)Z", sig := { parameters := [.int], returnType := some .boolean }, accessFlags := 2, code := some k2c16 }
def k2c17 : Code := { maxStack := 2, maxLocals := 2, code := prog_1_method_24_code, exceptionTable := #[], attributes := #[] }
def k2m17 : Method := { name := "validInputValue", desc := "(I)Z", sig := { parameters := [.int], returnType := some .boolean }, accessFlags := 2, code := some k2c17 }
def k2c18 : Code := { maxStack := 2, maxLocals := 2, code := prog_1_method_25_code, exceptionTable := #[], attributes := #[] }
def k2m18 : Method := { name := "validMessageValue", desc := "(I)Z", sig := { parameters := [.int], returnType := some .boolean }, accessFlags := 2, code := some k2c18 }
def k2c19 : Code := { maxStack := 2, maxLocals := 3, code := prog_1_method_26_code, exceptionTable := #[], attributes := #[] }
def k2m19 : Method := { name := "bitSet", desc := "(II)Z", sig := { parameters := [.int, .int], returnType := some .boolean }, accessFlags := 2, code := some k2c19 }
def k2c20 : Code := { maxStack := 2, maxLocals := 2, code := prog_1_method_27_code, exceptionTable := #[], attributes := #[] }
def k2m20 : Method := { name := "hasInput", desc := "(I)Z", sig := { parameters := [.int], returnType := some .boolean }, accessFlags := 2, code := some k2c20 }
def k2c21 : Code := { maxStack := 4, maxLocals := 7, code := prog_1_method_28_code, exceptionTable := #[], attributes := #[] }
def k2m21 : Method := { name := "composeSeed", desc := "(II)J", sig := { parameters := [.int, .int], returnType := some .long }, accessFlags := 2, code := some k2c21 }
def k2c22 : Code := { maxStack := 3, maxLocals := 4, code := prog_1_method_29_code, exceptionTable := #[], attributes := #[] }
def k2m22 : Method := { name := "sentIndex", desc := "(III)I", sig := { parameters := [.int, .int, .int], returnType := some .int }, accessFlags := 2, code := some k2c22 }
def k2c23 : Code := { maxStack := 3, maxLocals := 5, code := prog_1_method_30_code, exceptionTable := #[], attributes := #[] }
def k2m23 : Method := { name := "copyIndex", desc := "(IIII)I", sig := { parameters := [.int, .int, .int, .int], returnType := some .int }, accessFlags := 2, code := some k2c23 }
def k2c24 : Code := { maxStack := 2, maxLocals := 5, code := prog_1_method_31_code, exceptionTable := #[], attributes := #[] }
def k2m24 : Method := { name := "validSlot", desc := "(IIII)Z", sig := { parameters := [.int, .int, .int, .int], returnType := some .boolean }, accessFlags := 2, code := some k2c24 }
def k2c25 : Code := { maxStack := 5, maxLocals := 4, code := prog_1_method_32_code, exceptionTable := #[], attributes := #[] }
def k2m25 : Method := { name := "readSent", desc := "(III)I", sig := { parameters := [.int, .int, .int], returnType := some .int }, accessFlags := 2, code := some k2c25 }
def k2c26 : Code := { maxStack := 5, maxLocals := 5, code := prog_1_method_33_code, exceptionTable := #[], attributes := #[] }
def k2m26 : Method := { name := "writeSent", desc := "(IIII)V", sig := { parameters := [.int, .int, .int, .int], returnType := none }, accessFlags := 2, code := some k2c26 }
def k2c27 : Code := { maxStack := 6, maxLocals := 5, code := prog_1_method_34_code, exceptionTable := #[], attributes := #[] }
def k2m27 : Method := { name := "readCopy", desc := "(IIII)I", sig := { parameters := [.int, .int, .int, .int], returnType := some .int }, accessFlags := 2, code := some k2c27 }
def k2c28 : Code := { maxStack := 6, maxLocals := 6, code := prog_1_method_35_code, exceptionTable := #[], attributes := #[] }
def k2m28 : Method := { name := "writeCopy", desc := "(IIIII)V", sig := { parameters := [.int, .int, .int, .int, .int], returnType := none }, accessFlags := 2, code := some k2c28 }
def k2c29 : Code := { maxStack := 6, maxLocals := 6, code := prog_1_method_36_code, exceptionTable := #[], attributes := #[] }
def k2m29 : Method := { name := "broadcast", desc := "(IIII)V", sig := { parameters := [.int, .int, .int, .int], returnType := none }, accessFlags := 2, code := some k2c29 }
def k2c30 : Code := { maxStack := 5, maxLocals := 7, code := prog_1_method_38_code, exceptionTable := #[], attributes := #[] }
def k2m30 : Method := { name := "deliverToReceiver", desc := "(IIII)I", sig := { parameters := [.int, .int, .int, .int], returnType := some .int }, accessFlags := 2, code := some k2c30 }
def k2c31 : Code := { maxStack := 6, maxLocals := 5, code := prog_1_method_39_code, exceptionTable := #[], attributes := #[] }
def k2m31 : Method := { name := "deliverPair", desc := "(IIII)Z", sig := { parameters := [.int, .int, .int, .int], returnType := some .boolean }, accessFlags := 2, code := some k2c31 }
def k2c32 : Code := { maxStack := 5, maxLocals := 6, code := prog_1_method_40_code, exceptionTable := #[], attributes := #[] }
def k2m32 : Method := { name := "heldCount", desc := "(III)I", sig := { parameters := [.int, .int, .int], returnType := some .int }, accessFlags := 2, code := some k2c32 }
def k2c33 : Code := { maxStack := 5, maxLocals := 7, code := prog_1_method_41_code, exceptionTable := #[], attributes := #[] }
def k2m33 : Method := { name := "heldValueCount", desc := "(IIII)I", sig := { parameters := [.int, .int, .int, .int], returnType := some .int }, accessFlags := 2, code := some k2c33 }
def k2c34 : Code := { maxStack := 2, maxLocals := 4, code := prog_1_method_42_code, exceptionTable := #[], attributes := #[] }
def k2m34 : Method := { name := "step", desc := "(I)V", sig := { parameters := [.int], returnType := none }, accessFlags := 2, code := some k2c34 }
def k2c35 : Code := { maxStack := 5, maxLocals := 6, code := prog_1_method_43_code, exceptionTable := #[], attributes := #[] }
def k2m35 : Method := { name := "stepOnce", desc := "(I)Z", sig := { parameters := [.int], returnType := some .boolean }, accessFlags := 2, code := some k2c35 }
def k2c36 : Code := { maxStack := 2, maxLocals := 3, code := prog_1_method_44_code, exceptionTable := #[], attributes := #[] }
def k2m36 : Method := { name := "reportOutcome", desc := "(II)I", sig := { parameters := [.int, .int], returnType := some .int }, accessFlags := 2, code := some k2c36 }
def k2c37 : Code := { maxStack := 2, maxLocals := 3, code := prog_1_method_45_code, exceptionTable := #[], attributes := #[] }
def k2m37 : Method := { name := "proposalOutcome", desc := "(II)I", sig := { parameters := [.int, .int], returnType := some .int }, accessFlags := 2, code := some k2c37 }
def k2c38 : Code := { maxStack := 1, maxLocals := 4, code := prog_1_method_46_code, exceptionTable := #[], attributes := #[] }
def k2m38 : Method := { name := "countFor", desc := "(III)I", sig := { parameters := [.int, .int, .int], returnType := some .int }, accessFlags := 2, code := some k2c38 }
def k2c39 : Code := { maxStack := 5, maxLocals := 6, code := prog_1_method_47_code, exceptionTable := #[], attributes := #[] }
def k2m39 : Method := { name := "finishReportPhase", desc := "(IIII)V", sig := { parameters := [.int, .int, .int, .int], returnType := none }, accessFlags := 2, code := some k2c39 }
def k2c40 : Code := { maxStack := 5, maxLocals := 7, code := prog_1_method_48_code, exceptionTable := #[], attributes := #[] }
def k2m40 : Method := { name := "finishProposalPhase", desc := "(IIII)Z", sig := { parameters := [.int, .int, .int, .int], returnType := some .boolean }, accessFlags := 2, code := some k2c40 }
def k2c41 : Code := { maxStack := 3, maxLocals := 5, code := prog_1_method_49_code, exceptionTable := #[], attributes := #[] }
def k2m41 : Method := { name := "adoptValue", desc := "(IIII)V", sig := { parameters := [.int, .int, .int, .int], returnType := none }, accessFlags := 2, code := some k2c41 }
def k2c42 : Code := { maxStack := 5, maxLocals := 4, code := prog_1_method_50_code, exceptionTable := #[], attributes := #[] }
def k2m42 : Method := { name := "drawCoin", desc := "(I)V", sig := { parameters := [.int], returnType := none }, accessFlags := 2, code := some k2c42 }
/-- RandomConsensus -/
def k2 : Class := { plain "RandomConsensus" (some 0) with
  accessFlags := 49
  interfaces := #[]
  cf := some (fileOf pool2 8 #[] #[{ accessFlags := 1, nameIndex := 5, descriptorIndex := 103, attributes := #[] }, { accessFlags := 1, nameIndex := 208, descriptorIndex := 121, attributes := #[] }, { accessFlags := 1, nameIndex := 210, descriptorIndex := 99, attributes := #[] }, { accessFlags := 1, nameIndex := 212, descriptorIndex := 213, attributes := #[] }, { accessFlags := 1, nameIndex := 216, descriptorIndex := 213, attributes := #[] }, { accessFlags := 1, nameIndex := 218, descriptorIndex := 213, attributes := #[] }, { accessFlags := 1, nameIndex := 219, descriptorIndex := 213, attributes := #[] }, { accessFlags := 1, nameIndex := 220, descriptorIndex := 47, attributes := #[] }, { accessFlags := 1, nameIndex := 222, descriptorIndex := 213, attributes := #[] }, { accessFlags := 1, nameIndex := 223, descriptorIndex := 224, attributes := #[] }, { accessFlags := 2, nameIndex := 63, descriptorIndex := 6, attributes := #[] }, { accessFlags := 2, nameIndex := 115, descriptorIndex := 85, attributes := #[] }, { accessFlags := 2, nameIndex := 66, descriptorIndex := 6, attributes := #[] }, { accessFlags := 2, nameIndex := 46, descriptorIndex := 47, attributes := #[] }, { accessFlags := 2, nameIndex := 69, descriptorIndex := 70, attributes := #[] }, { accessFlags := 2, nameIndex := 88, descriptorIndex := 70, attributes := #[] }, { accessFlags := 2, nameIndex := 91, descriptorIndex := 70, attributes := #[] }, { accessFlags := 2, nameIndex := 73, descriptorIndex := 70, attributes := #[] }, { accessFlags := 2, nameIndex := 130, descriptorIndex := 70, attributes := #[] }, { accessFlags := 2, nameIndex := 94, descriptorIndex := 95, attributes := #[] }, { accessFlags := 2, nameIndex := 106, descriptorIndex := 70, attributes := #[] }, { accessFlags := 2, nameIndex := 76, descriptorIndex := 77, attributes := #[] }, { accessFlags := 2, nameIndex := 124, descriptorIndex := 47, attributes := #[] }, { accessFlags := 2, nameIndex := 127, descriptorIndex := 99, attributes := #[] }, { accessFlags := 2, nameIndex := 120, descriptorIndex := 121, attributes := #[] }, { accessFlags := 2, nameIndex := 109, descriptorIndex := 47, attributes := #[] }, { accessFlags := 2, nameIndex := 133, descriptorIndex := 81, attributes := #[] }, { accessFlags := 2, nameIndex := 112, descriptorIndex := 99, attributes := #[] }, { accessFlags := 2, nameIndex := 136, descriptorIndex := 137, attributes := #[] }, { accessFlags := 2, nameIndex := 80, descriptorIndex := 81, attributes := #[] }, { accessFlags := 2, nameIndex := 98, descriptorIndex := 99, attributes := #[] }, { accessFlags := 2, nameIndex := 140, descriptorIndex := 121, attributes := #[] }, { accessFlags := 2, nameIndex := 146, descriptorIndex := 47, attributes := #[] }, { accessFlags := 2, nameIndex := 149, descriptorIndex := 99, attributes := #[] }, { accessFlags := 2, nameIndex := 84, descriptorIndex := 85, attributes := #[] }, { accessFlags := 2, nameIndex := 143, descriptorIndex := 70, attributes := #[] }, { accessFlags := 2, nameIndex := 158, descriptorIndex := 159, attributes := #[] }, { accessFlags := 2, nameIndex := 162, descriptorIndex := 159, attributes := #[] }, { accessFlags := 2, nameIndex := 168, descriptorIndex := 47, attributes := #[] }, { accessFlags := 2, nameIndex := 152, descriptorIndex := 81, attributes := #[] }, { accessFlags := 2, nameIndex := 155, descriptorIndex := 121, attributes := #[] }, { accessFlags := 2, nameIndex := 171, descriptorIndex := 81, attributes := #[] }, { accessFlags := 2, nameIndex := 165, descriptorIndex := 85, attributes := #[] }] 49 2 #[] #[{ accessFlags := 25, nameIndex := 179, descriptorIndex := 51, attributes := #[] }, { accessFlags := 25, nameIndex := 182, descriptorIndex := 51, attributes := #[] }, { accessFlags := 25, nameIndex := 184, descriptorIndex := 51, attributes := #[] }, { accessFlags := 25, nameIndex := 186, descriptorIndex := 51, attributes := #[] }, { accessFlags := 25, nameIndex := 188, descriptorIndex := 51, attributes := #[] }, { accessFlags := 25, nameIndex := 190, descriptorIndex := 51, attributes := #[] }, { accessFlags := 25, nameIndex := 191, descriptorIndex := 51, attributes := #[] }, { accessFlags := 25, nameIndex := 192, descriptorIndex := 51, attributes := #[] }, { accessFlags := 25, nameIndex := 193, descriptorIndex := 51, attributes := #[] }, { accessFlags := 25, nameIndex := 194, descriptorIndex := 51, attributes := #[] }, { accessFlags := 25, nameIndex := 196, descriptorIndex := 51, attributes := #[] }, { accessFlags := 25, nameIndex := 197, descriptorIndex := 51, attributes := #[] }, { accessFlags := 25, nameIndex := 198, descriptorIndex := 51, attributes := #[] }, { accessFlags := 25, nameIndex := 199, descriptorIndex := 51, attributes := #[] }, { accessFlags := 25, nameIndex := 200, descriptorIndex := 51, attributes := #[] }, { accessFlags := 25, nameIndex := 201, descriptorIndex := 51, attributes := #[] }, { accessFlags := 25, nameIndex := 203, descriptorIndex := 204, attributes := #[] }, { accessFlags := 25, nameIndex := 205, descriptorIndex := 204, attributes := #[] }, { accessFlags := 2, nameIndex := 50, descriptorIndex := 51, attributes := #[] }, { accessFlags := 2, nameIndex := 54, descriptorIndex := 51, attributes := #[] }, { accessFlags := 2, nameIndex := 57, descriptorIndex := 51, attributes := #[] }, { accessFlags := 2, nameIndex := 60, descriptorIndex := 51, attributes := #[] }, { accessFlags := 2, nameIndex := 11, descriptorIndex := 12, attributes := #[] }, { accessFlags := 2, nameIndex := 15, descriptorIndex := 12, attributes := #[] }, { accessFlags := 2, nameIndex := 18, descriptorIndex := 12, attributes := #[] }, { accessFlags := 2, nameIndex := 21, descriptorIndex := 12, attributes := #[] }, { accessFlags := 2, nameIndex := 24, descriptorIndex := 12, attributes := #[] }, { accessFlags := 2, nameIndex := 27, descriptorIndex := 12, attributes := #[] }, { accessFlags := 2, nameIndex := 30, descriptorIndex := 12, attributes := #[] }, { accessFlags := 2, nameIndex := 33, descriptorIndex := 34, attributes := #[] }, { accessFlags := 2, nameIndex := 37, descriptorIndex := 12, attributes := #[] }, { accessFlags := 2, nameIndex := 40, descriptorIndex := 12, attributes := #[] }, { accessFlags := 2, nameIndex := 43, descriptorIndex := 12, attributes := #[] }])
  fields := #[{ name := "N", type := .int, accessFlags := 25, slot := 0, constantValue := 0 }, { name := "REPORT", type := .int, accessFlags := 25, slot := 1, constantValue := 0 }, { name := "PROPOSAL", type := .int, accessFlags := 25, slot := 2, constantValue := 0 }, { name := "NONE", type := .int, accessFlags := 25, slot := 3, constantValue := 0 }, { name := "BOTTOM", type := .int, accessFlags := 25, slot := 4, constantValue := 0 }, { name := "UNDECIDED", type := .int, accessFlags := 25, slot := 5, constantValue := 0 }, { name := "IDLE", type := .int, accessFlags := 25, slot := 6, constantValue := 0 }, { name := "RUNNING", type := .int, accessFlags := 25, slot := 7, constantValue := 0 }, { name := "DONE", type := .int, accessFlags := 25, slot := 8, constantValue := 0 }, { name := "CRASHED", type := .int, accessFlags := 25, slot := 9, constantValue := 0 }, { name := "NOT_SENT", type := .int, accessFlags := 25, slot := 10, constantValue := 0 }, { name := "IN_TRANSIT", type := .int, accessFlags := 25, slot := 11, constantValue := 0 }, { name := "DELIVERED", type := .int, accessFlags := 25, slot := 12, constantValue := 0 }, { name := "LOST", type := .int, accessFlags := 25, slot := 13, constantValue := 0 }, { name := "MAX_FAULTS", type := .int, accessFlags := 25, slot := 14, constantValue := 0 }, { name := "MAX_ROUNDS", type := .int, accessFlags := 25, slot := 15, constantValue := 0 }, { name := "COIN_MUL", type := .long, accessFlags := 25, slot := 16, constantValue := 0 }, { name := "COIN_ADD", type := .long, accessFlags := 25, slot := 17, constantValue := 0 }, { name := "faultLimit", type := .int, accessFlags := 2, slot := 0, constantValue := 0 }, { name := "roundLimit", type := .int, accessFlags := 2, slot := 1, constantValue := 0 }, { name := "quorum", type := .int, accessFlags := 2, slot := 2, constantValue := 0 }, { name := "crashTotal", type := .int, accessFlags := 2, slot := 3, constantValue := 0 }, { name := "procStatus", type := (.array .int), accessFlags := 2, slot := 4, constantValue := 0 }, { name := "procInput", type := (.array .int), accessFlags := 2, slot := 5, constantValue := 0 }, { name := "procEstimate", type := (.array .int), accessFlags := 2, slot := 6, constantValue := 0 }, { name := "procRound", type := (.array .int), accessFlags := 2, slot := 7, constantValue := 0 }, { name := "procPhase", type := (.array .int), accessFlags := 2, slot := 8, constantValue := 0 }, { name := "procDecision", type := (.array .int), accessFlags := 2, slot := 9, constantValue := 0 }, { name := "procDecisionRound", type := (.array .int), accessFlags := 2, slot := 10, constantValue := 0 }, { name := "procCoin", type := (.array .long), accessFlags := 2, slot := 11, constantValue := 0 }, { name := "procFlips", type := (.array .int), accessFlags := 2, slot := 12, constantValue := 0 }, { name := "sentValues", type := (.array .int), accessFlags := 2, slot := 13, constantValue := 0 }, { name := "copyStates", type := (.array .int), accessFlags := 2, slot := 14, constantValue := 0 }]
  methods := #[k2m0, k2m1, k2m2, k2m3, k2m4, k2m5, k2m6, k2m7, k2m8, k2m9, k2m10, k2m11, k2m12, k2m13, k2m14, k2m15, k2m16, k2m17, k2m18, k2m19, k2m20, k2m21, k2m22, k2m23, k2m24, k2m25, k2m26, k2m27, k2m28, k2m29, k2m30, k2m31, k2m32, k2m33, k2m34, k2m35, k2m36, k2m37, k2m38, k2m39, k2m40, k2m41, k2m42]
  instanceTypes := #[.int, .int, .int, .int, (.array .int), (.array .int), (.array .int), (.array .int), (.array .int), (.array .int), (.array .int), (.array .long), (.array .int), (.array .int), (.array .int)]
  staticTypes := #[.int, .int, .int, .int, .int, .int, .int, .int, .int, .int, .int, .int, .int, .int, .int, .int, .long, .long]
  resolved := Array.replicate 229 none
  statics := none }

def pool3 : Array CpInfo := pool [(1, u "java/lang/Cloneable"), (0, .class_ 1), (0, u "java/lang/Object"), (0, .class_ 3)] 3

/-- java/lang/Cloneable -/
def k3 : Class := { plain "java/lang/Cloneable" (some 0) with
  accessFlags := 1537
  interfaces := #[]
  cf := some (fileOf pool3 2 #[] #[] 1537 4 #[] #[])
  fields := #[]
  methods := #[]
  instanceTypes := #[]
  staticTypes := #[]
  resolved := Array.replicate 8 none
  statics := none }

def pool4 : Array CpInfo := pool [(1, u "java/io/Serializable"), (0, .class_ 1), (0, u "java/lang/Object"), (0, .class_ 3)] 3

/-- java/io/Serializable -/
def k4 : Class := { plain "java/io/Serializable" (some 0) with
  accessFlags := 1537
  interfaces := #[]
  cf := some (fileOf pool4 2 #[] #[] 1537 4 #[] #[])
  fields := #[]
  methods := #[]
  instanceTypes := #[]
  staticTypes := #[]
  resolved := Array.replicate 8 none
  statics := none }

/-- the primitive byte -/
def k5 : Class := { plain "byte" none with kind := .primitive 'B', accessFlags := 0x411 }
/-- [B -/
def k6 : Class := { plain "[B" (some 0) with kind := .array 5 .byte, interfaces := #[3, 4], accessFlags := 1041 }

/-- the primitive int -/
def k7 : Class := { plain "int" none with kind := .primitive 'I', accessFlags := 0x411 }
/-- [I -/
def k8 : Class := { plain "[I" (some 0) with kind := .array 7 .int, interfaces := #[3, 4], accessFlags := 1041 }

/-- the primitive long -/
def k9 : Class := { plain "long" none with kind := .primitive 'J', accessFlags := 0x411 }
/-- [J -/
def k10 : Class := { plain "[J" (some 0) with kind := .array 9 .long, interfaces := #[3, 4], accessFlags := 1041 }

def heap : Heap := #[]
def classes : Array Class := #[k0, k1, k2, k3, k4, k5, k6, k7, k8, k9, k10]
def interned : List (Array UInt16 × Addr) := []
def slotsUsed : Nat := 0
def theMethod : MethodId := ⟨1, 1⟩
def args0 : Array Value := #[.int 5, .int 5, .int 5, .int 5, .int 5, .int 5]
def aboutOver (below : List Frame) : State where
  vm := { classes := classes, interned := interned.toArray }
  heap := heap
  slotsUsed := slotsUsed
  threads := #[{ frames := .invoking theMethod args0 :: below }]
def below0 : List Frame := [.native { method := ⟨0, 0⟩, args := #[] }]
def about1 : State := aboutOver below0
def p0 : Program := .bare "" "" ""
def e0 : Env := launch0.env 0 0 0
theorem w_frames : about1.frames = Frame.invoking theMethod args0 :: below0 := rfl
set_option maxRecDepth 65536 in
theorem w_args : argsFit about1.vm theMethod args0 = true := by decide +kernel
set_option maxRecDepth 65536 in
theorem w_heap : heapFits about1 = true := by decide +kernel
set_option maxRecDepth 65536 in
theorem w_runnable : about1.curStatus? = some .runnable := by decide +kernel
set_option maxRecDepth 65536 in
theorem w_alone : about1.alone = true := by decide +kernel
set_option maxRecDepth 65536 in
theorem w_named : about1.methodNamed? x = some theMethod := by decide +kernel
set_option maxRecDepth 65536 in
theorem w_hears : about1.hears theMethod below0 = true := by decide +kernel
set_option maxRecDepth 65536 in
theorem w_ripe : about1.ripe theMethod args0 below0 = true := by decide +kernel
theorem w_running : about1.status = .running := rfl
set_option maxRecDepth 65536 in
theorem w_room : about1.hasRoom e0.platform room_1 = true :=
  launch0.hasRoom_least _ room_1 (by decide +kernel) (by decide +kernel) (by decide +kernel) (by decide +kernel) (by decide +kernel) (by decide +kernel)
theorem allAtoms_all (ts : List Jvm.Cond) (a : Array Jvm.Value) (st : Jvm.State) : (allAtoms ts).before a st = ts.all (fun c => c.before a st) := by
  induction ts with
  | nil => rfl
  | cons c t ih =>
    show (Jvm.Cond.and c (allAtoms t)).before a st = _
    rw [Jvm.Cond.before_and, ih, List.all_cons]
def words1 : List Jvm.Cond := Jvm.Cond.code x code maxLocals ret :: tables_1
/-- a 'code' word, met by the world's own term for the bytes: nothing is compared byte by byte -/
theorem code_word {y : MethodName} {bytes : ByteArray} {mx : Nat} {rt : Option FieldType} {a : Array Value} {s : State} {m : MethodId} {meth : Method} {c : Code} (h1 : s.methodNamed? y = some m) (h2 : s.vm.method? m = some meth) (h3 : meth.code = some c) (h4 : c.code = bytes)
    (h5 : (c.maxLocals == mx && c.exceptionTable.isEmpty && decide (c.maxStack ≤ mostOperands) && decide (meth.sig.returnType = rt) && !meth.locks && decide (parseMethodDescriptor y.desc = some meth.sig)) = true) : (Jvm.Cond.code y bytes mx rt).before a s = true := by
  simp only [Bool.and_eq_true, beq_iff_eq, Bool.not_eq_true', decide_eq_true_eq] at h5
  obtain ⟨⟨⟨⟨⟨g1, g2⟩, g3⟩, g4⟩, g5⟩, g6⟩ := h5
  simp [Cond.before, Cond.holds, Cond.value, h1, h2, h3, h4, g1, g2, g3, g4, g5, g6]
def isCode : Jvm.Cond → Bool
  | .code _ _ _ _ => true
  | _ => false
theorem all_split {L : List Jvm.Cond} {P : Jvm.Cond → Bool} (h1 : L.all (fun c => isCode c || P c) = true) (h2 : ∀ c ∈ L.filter isCode, P c = true) : L.all P = true := by
  refine List.all_eq_true.mpr fun c hc => ?_
  have h := List.all_eq_true.mp h1 c hc
  rcases Bool.eq_false_or_eq_true (isCode c) with hi | hi
  · exact h2 c (List.mem_filter.mpr ⟨hc, hi⟩)
  · simpa [hi] using h
set_option maxRecDepth 65536 in
theorem w_c0 : (Jvm.Cond.code x code maxLocals ret).before args0 about1 = true := code_word (m := ⟨1, 1⟩) (meth := k1m1) (c := k1c1) (by decide +kernel) rfl rfl rfl (by decide +kernel)
set_option maxRecDepth 65536 in
theorem w_c1 : (Jvm.Cond.code ({ cls := "RandomConsensus", name := "<init>", desc := "(II)V" } : Jvm.MethodName) prog_1_method_1_code (3 : Nat) (Option.none : Option Jvm.ClassFile.FieldType)).before args0 about1 = true := code_word (m := ⟨2, 0⟩) (meth := k2m0) (c := k2c0) (by decide +kernel) rfl rfl rfl (by decide +kernel)
set_option maxRecDepth 65536 in
theorem w_c2 : (Jvm.Cond.code ({ cls := "java/lang/Object", name := "<init>", desc := "()V" } : Jvm.MethodName) object_method_1_code (1 : Nat) (Option.none : Option Jvm.ClassFile.FieldType)).before args0 about1 = true := code_word (m := ⟨0, 0⟩) (meth := k0m0) (c := k0c0) (by decide +kernel) rfl rfl rfl (by decide +kernel)
set_option maxRecDepth 65536 in
theorem w_c3 : (Jvm.Cond.code ({ cls := "RandomConsensus", name := "clamp", desc := "(III)I" } : Jvm.MethodName) prog_1_method_20_code (4 : Nat) (Option.some Jvm.ClassFile.FieldType.int)).before args0 about1 = true := code_word (m := ⟨2, 13⟩) (meth := k2m13) (c := k2c13) (by decide +kernel) rfl rfl rfl (by decide +kernel)
set_option maxRecDepth 65536 in
theorem w_c4 : (Jvm.Cond.code ({ cls := "RandomConsensus", name := "resetAllProcesses", desc := "()V" } : Jvm.MethodName) prog_1_method_17_code (2 : Nat) (Option.none : Option Jvm.ClassFile.FieldType)).before args0 about1 = true := code_word (m := ⟨2, 10⟩) (meth := k2m10) (c := k2c10) (by decide +kernel) rfl rfl rfl (by decide +kernel)
set_option maxRecDepth 65536 in
theorem w_c5 : (Jvm.Cond.code ({ cls := "RandomConsensus", name := "resetProcess", desc := "(I)V" } : Jvm.MethodName) prog_1_method_18_code (2 : Nat) (Option.none : Option Jvm.ClassFile.FieldType)).before args0 about1 = true := code_word (m := ⟨2, 11⟩) (meth := k2m11) (c := k2c11) (by decide +kernel) rfl rfl rfl (by decide +kernel)
set_option maxRecDepth 65536 in
theorem w_c6 : (Jvm.Cond.code ({ cls := "RandomConsensus", name := "validProcess", desc := "(I)Z" } : Jvm.MethodName) prog_1_method_21_code (2 : Nat) (Option.some Jvm.ClassFile.FieldType.boolean)).before args0 about1 = true := code_word (m := ⟨2, 14⟩) (meth := k2m14) (c := k2c14) (by decide +kernel) rfl rfl rfl (by decide +kernel)
set_option maxRecDepth 65536 in
theorem w_c7 : (Jvm.Cond.code ({ cls := "RandomConsensus", name := "resetAllMessages", desc := "()V" } : Jvm.MethodName) prog_1_method_19_code (2 : Nat) (Option.none : Option Jvm.ClassFile.FieldType)).before args0 about1 = true := code_word (m := ⟨2, 12⟩) (meth := k2m12) (c := k2c12) (by decide +kernel) rfl rfl rfl (by decide +kernel)
set_option maxRecDepth 65536 in
theorem w_c8 : (Jvm.Cond.code ({ cls := "RandomConsensus", name := "setInput", desc := "(IIII)Z" } : Jvm.MethodName) prog_1_method_2_code (5 : Nat) (Option.some Jvm.ClassFile.FieldType.boolean)).before args0 about1 = true := code_word (m := ⟨2, 1⟩) (meth := k2m1) (c := k2c1) (by decide +kernel) rfl rfl rfl (by decide +kernel)
set_option maxRecDepth 65536 in
theorem w_c9 : (Jvm.Cond.code ({ cls := "RandomConsensus", name := "validInputValue", desc := "(I)Z" } : Jvm.MethodName) prog_1_method_24_code (2 : Nat) (Option.some Jvm.ClassFile.FieldType.boolean)).before args0 about1 = true := code_word (m := ⟨2, 17⟩) (meth := k2m17) (c := k2c17) (by decide +kernel) rfl rfl rfl (by decide +kernel)
set_option maxRecDepth 65536 in
theorem w_c10 : (Jvm.Cond.code ({ cls := "RandomConsensus", name := "composeSeed", desc := "(II)J" } : Jvm.MethodName) prog_1_method_28_code (7 : Nat) (Option.some Jvm.ClassFile.FieldType.long)).before args0 about1 = true := code_word (m := ⟨2, 21⟩) (meth := k2m21) (c := k2c21) (by decide +kernel) rfl rfl rfl (by decide +kernel)
set_option maxRecDepth 65536 in
theorem w_c11 : (Jvm.Cond.code ({ cls := "RandomConsensus", name := "broadcast", desc := "(IIII)V" } : Jvm.MethodName) prog_1_method_36_code (6 : Nat) (Option.none : Option Jvm.ClassFile.FieldType)).before args0 about1 = true := code_word (m := ⟨2, 29⟩) (meth := k2m29) (c := k2c29) (by decide +kernel) rfl rfl rfl (by decide +kernel)
set_option maxRecDepth 65536 in
theorem w_c12 : (Jvm.Cond.code ({ cls := "RandomConsensus", name := "validMessageValue", desc := "(I)Z" } : Jvm.MethodName) prog_1_method_25_code (2 : Nat) (Option.some Jvm.ClassFile.FieldType.boolean)).before args0 about1 = true := code_word (m := ⟨2, 18⟩) (meth := k2m18) (c := k2c18) (by decide +kernel) rfl rfl rfl (by decide +kernel)
set_option maxRecDepth 65536 in
theorem w_c13 : (Jvm.Cond.code ({ cls := "RandomConsensus", name := "writeSent", desc := "(IIII)V" } : Jvm.MethodName) prog_1_method_33_code (5 : Nat) (Option.none : Option Jvm.ClassFile.FieldType)).before args0 about1 = true := code_word (m := ⟨2, 26⟩) (meth := k2m26) (c := k2c26) (by decide +kernel) rfl rfl rfl (by decide +kernel)
set_option maxRecDepth 65536 in
theorem w_c14 : (Jvm.Cond.code ({ cls := "RandomConsensus", name := "validSlot", desc := "(IIII)Z" } : Jvm.MethodName) prog_1_method_31_code (5 : Nat) (Option.some Jvm.ClassFile.FieldType.boolean)).before args0 about1 = true := code_word (m := ⟨2, 24⟩) (meth := k2m24) (c := k2c24) (by decide +kernel) rfl rfl rfl (by decide +kernel)
set_option maxRecDepth 65536 in
theorem w_c15 : (Jvm.Cond.code ({ cls := "RandomConsensus", name := "validRound", desc := "(I)Z" } : Jvm.MethodName) prog_1_method_22_code (2 : Nat) (Option.some Jvm.ClassFile.FieldType.boolean)).before args0 about1 = true := code_word (m := ⟨2, 15⟩) (meth := k2m15) (c := k2c15) (by decide +kernel) rfl rfl rfl (by decide +kernel)
set_option maxRecDepth 65536 in
theorem w_c16 : (Jvm.Cond.code ({ cls := "RandomConsensus", name := "validPhase", desc := "(I)Z" } : Jvm.MethodName) prog_1_method_23_code (2 : Nat) (Option.some Jvm.ClassFile.FieldType.boolean)).before args0 about1 = true := code_word (m := ⟨2, 16⟩) (meth := k2m16) (c := k2c16) (by decide +kernel) rfl rfl rfl (by decide +kernel)
set_option maxRecDepth 65536 in
theorem w_c17 : (Jvm.Cond.code ({ cls := "RandomConsensus", name := "sentIndex", desc := "(III)I" } : Jvm.MethodName) prog_1_method_29_code (4 : Nat) (Option.some Jvm.ClassFile.FieldType.int)).before args0 about1 = true := code_word (m := ⟨2, 22⟩) (meth := k2m22) (c := k2c22) (by decide +kernel) rfl rfl rfl (by decide +kernel)
set_option maxRecDepth 65536 in
theorem w_c18 : (Jvm.Cond.code ({ cls := "RandomConsensus", name := "writeCopy", desc := "(IIIII)V" } : Jvm.MethodName) prog_1_method_35_code (6 : Nat) (Option.none : Option Jvm.ClassFile.FieldType)).before args0 about1 = true := code_word (m := ⟨2, 28⟩) (meth := k2m28) (c := k2c28) (by decide +kernel) rfl rfl rfl (by decide +kernel)
set_option maxRecDepth 65536 in
theorem w_c19 : (Jvm.Cond.code ({ cls := "RandomConsensus", name := "copyIndex", desc := "(IIII)I" } : Jvm.MethodName) prog_1_method_30_code (5 : Nat) (Option.some Jvm.ClassFile.FieldType.int)).before args0 about1 = true := code_word (m := ⟨2, 23⟩) (meth := k2m23) (c := k2c23) (by decide +kernel) rfl rfl rfl (by decide +kernel)
set_option maxRecDepth 65536 in
theorem w_c20 : (Jvm.Cond.code ({ cls := "RandomConsensus", name := "step", desc := "(I)V" } : Jvm.MethodName) prog_1_method_42_code (4 : Nat) (Option.none : Option Jvm.ClassFile.FieldType)).before args0 about1 = true := code_word (m := ⟨2, 34⟩) (meth := k2m34) (c := k2c34) (by decide +kernel) rfl rfl rfl (by decide +kernel)
set_option maxRecDepth 65536 in
theorem w_c21 : (Jvm.Cond.code ({ cls := "RandomConsensus", name := "stepOnce", desc := "(I)Z" } : Jvm.MethodName) prog_1_method_43_code (6 : Nat) (Option.some Jvm.ClassFile.FieldType.boolean)).before args0 about1 = true := code_word (m := ⟨2, 35⟩) (meth := k2m35) (c := k2c35) (by decide +kernel) rfl rfl rfl (by decide +kernel)
set_option maxRecDepth 65536 in
theorem w_c22 : (Jvm.Cond.code ({ cls := "RandomConsensus", name := "heldCount", desc := "(III)I" } : Jvm.MethodName) prog_1_method_40_code (6 : Nat) (Option.some Jvm.ClassFile.FieldType.int)).before args0 about1 = true := code_word (m := ⟨2, 32⟩) (meth := k2m32) (c := k2c32) (by decide +kernel) rfl rfl rfl (by decide +kernel)
set_option maxRecDepth 65536 in
theorem w_c23 : (Jvm.Cond.code ({ cls := "RandomConsensus", name := "readCopy", desc := "(IIII)I" } : Jvm.MethodName) prog_1_method_34_code (5 : Nat) (Option.some Jvm.ClassFile.FieldType.int)).before args0 about1 = true := code_word (m := ⟨2, 27⟩) (meth := k2m27) (c := k2c27) (by decide +kernel) rfl rfl rfl (by decide +kernel)
set_option maxRecDepth 65536 in
theorem w_c24 : (Jvm.Cond.code ({ cls := "RandomConsensus", name := "deliver", desc := "(IIII)I" } : Jvm.MethodName) prog_1_method_3_code (7 : Nat) (Option.some Jvm.ClassFile.FieldType.int)).before args0 about1 = true := code_word (m := ⟨2, 2⟩) (meth := k2m2) (c := k2c2) (by decide +kernel) rfl rfl rfl (by decide +kernel)
set_option maxRecDepth 65536 in
theorem w_c25 : (Jvm.Cond.code ({ cls := "RandomConsensus", name := "bitSet", desc := "(II)Z" } : Jvm.MethodName) prog_1_method_26_code (3 : Nat) (Option.some Jvm.ClassFile.FieldType.boolean)).before args0 about1 = true := code_word (m := ⟨2, 19⟩) (meth := k2m19) (c := k2c19) (by decide +kernel) rfl rfl rfl (by decide +kernel)
set_option maxRecDepth 65536 in
theorem w_c26 : (Jvm.Cond.code ({ cls := "RandomConsensus", name := "deliverToReceiver", desc := "(IIII)I" } : Jvm.MethodName) prog_1_method_38_code (7 : Nat) (Option.some Jvm.ClassFile.FieldType.int)).before args0 about1 = true := code_word (m := ⟨2, 30⟩) (meth := k2m30) (c := k2c30) (by decide +kernel) rfl rfl rfl (by decide +kernel)
set_option maxRecDepth 65536 in
theorem w_c27 : (Jvm.Cond.code ({ cls := "RandomConsensus", name := "deliverPair", desc := "(IIII)Z" } : Jvm.MethodName) prog_1_method_39_code (5 : Nat) (Option.some Jvm.ClassFile.FieldType.boolean)).before args0 about1 = true := code_word (m := ⟨2, 31⟩) (meth := k2m31) (c := k2c31) (by decide +kernel) rfl rfl rfl (by decide +kernel)
set_option maxRecDepth 65536 in
theorem w_c28 : (Jvm.Cond.code ({ cls := "RandomConsensus", name := "heldValueCount", desc := "(IIII)I" } : Jvm.MethodName) prog_1_method_41_code (7 : Nat) (Option.some Jvm.ClassFile.FieldType.int)).before args0 about1 = true := code_word (m := ⟨2, 33⟩) (meth := k2m33) (c := k2c33) (by decide +kernel) rfl rfl rfl (by decide +kernel)
set_option maxRecDepth 65536 in
theorem w_c29 : (Jvm.Cond.code ({ cls := "RandomConsensus", name := "readSent", desc := "(III)I" } : Jvm.MethodName) prog_1_method_32_code (4 : Nat) (Option.some Jvm.ClassFile.FieldType.int)).before args0 about1 = true := code_word (m := ⟨2, 25⟩) (meth := k2m25) (c := k2c25) (by decide +kernel) rfl rfl rfl (by decide +kernel)
set_option maxRecDepth 65536 in
theorem w_c30 : (Jvm.Cond.code ({ cls := "RandomConsensus", name := "finishReportPhase", desc := "(IIII)V" } : Jvm.MethodName) prog_1_method_47_code (6 : Nat) (Option.none : Option Jvm.ClassFile.FieldType)).before args0 about1 = true := code_word (m := ⟨2, 39⟩) (meth := k2m39) (c := k2c39) (by decide +kernel) rfl rfl rfl (by decide +kernel)
set_option maxRecDepth 65536 in
theorem w_c31 : (Jvm.Cond.code ({ cls := "RandomConsensus", name := "reportOutcome", desc := "(II)I" } : Jvm.MethodName) prog_1_method_44_code (3 : Nat) (Option.some Jvm.ClassFile.FieldType.int)).before args0 about1 = true := code_word (m := ⟨2, 36⟩) (meth := k2m36) (c := k2c36) (by decide +kernel) rfl rfl rfl (by decide +kernel)
set_option maxRecDepth 65536 in
theorem w_c32 : (Jvm.Cond.code ({ cls := "RandomConsensus", name := "finishProposalPhase", desc := "(IIII)Z" } : Jvm.MethodName) prog_1_method_48_code (7 : Nat) (Option.some Jvm.ClassFile.FieldType.boolean)).before args0 about1 = true := code_word (m := ⟨2, 40⟩) (meth := k2m40) (c := k2c40) (by decide +kernel) rfl rfl rfl (by decide +kernel)
set_option maxRecDepth 65536 in
theorem w_c33 : (Jvm.Cond.code ({ cls := "RandomConsensus", name := "proposalOutcome", desc := "(II)I" } : Jvm.MethodName) prog_1_method_45_code (3 : Nat) (Option.some Jvm.ClassFile.FieldType.int)).before args0 about1 = true := code_word (m := ⟨2, 37⟩) (meth := k2m37) (c := k2c37) (by decide +kernel) rfl rfl rfl (by decide +kernel)
set_option maxRecDepth 65536 in
theorem w_c34 : (Jvm.Cond.code ({ cls := "RandomConsensus", name := "drawCoin", desc := "(I)V" } : Jvm.MethodName) prog_1_method_50_code (4 : Nat) (Option.none : Option Jvm.ClassFile.FieldType)).before args0 about1 = true := code_word (m := ⟨2, 42⟩) (meth := k2m42) (c := k2c42) (by decide +kernel) rfl rfl rfl (by decide +kernel)
set_option maxRecDepth 65536 in
theorem w_c35 : (Jvm.Cond.code ({ cls := "RandomConsensus", name := "status", desc := "(I)I" } : Jvm.MethodName) prog_1_method_5_code (2 : Nat) (Option.some Jvm.ClassFile.FieldType.int)).before args0 about1 = true := code_word (m := ⟨2, 3⟩) (meth := k2m3) (c := k2c3) (by decide +kernel) rfl rfl rfl (by decide +kernel)
set_option maxRecDepth 65536 in
theorem w_c36 : (Jvm.Cond.code ({ cls := "RandomConsensus", name := "sentValue", desc := "(III)I" } : Jvm.MethodName) prog_1_method_12_code (4 : Nat) (Option.some Jvm.ClassFile.FieldType.int)).before args0 about1 = true := code_word (m := ⟨2, 7⟩) (meth := k2m7) (c := k2c7) (by decide +kernel) rfl rfl rfl (by decide +kernel)
set_option maxRecDepth 65536 in
theorem w_c37 : (Jvm.Cond.code ({ cls := "RandomConsensus", name := "decision", desc := "(I)I" } : Jvm.MethodName) prog_1_method_10_code (2 : Nat) (Option.some Jvm.ClassFile.FieldType.int)).before args0 about1 = true := code_word (m := ⟨2, 5⟩) (meth := k2m5) (c := k2c5) (by decide +kernel) rfl rfl rfl (by decide +kernel)
set_option maxRecDepth 65536 in
theorem w_c38 : (Jvm.Cond.code ({ cls := "RandomConsensus", name := "decisionRound", desc := "(I)I" } : Jvm.MethodName) prog_1_method_11_code (2 : Nat) (Option.some Jvm.ClassFile.FieldType.int)).before args0 about1 = true := code_word (m := ⟨2, 6⟩) (meth := k2m6) (c := k2c6) (by decide +kernel) rfl rfl rfl (by decide +kernel)
set_option maxRecDepth 65536 in
theorem w_c39 : (Jvm.Cond.code ({ cls := "RandomConsensus", name := "estimate", desc := "(I)I" } : Jvm.MethodName) prog_1_method_8_code (2 : Nat) (Option.some Jvm.ClassFile.FieldType.int)).before args0 about1 = true := code_word (m := ⟨2, 4⟩) (meth := k2m4) (c := k2c4) (by decide +kernel) rfl rfl rfl (by decide +kernel)
set_option maxRecDepth 65536 in
theorem w_c40 : (Jvm.Cond.code ({ cls := "RandomConsensus", name := "hasInput", desc := "(I)Z" } : Jvm.MethodName) prog_1_method_27_code (2 : Nat) (Option.some Jvm.ClassFile.FieldType.boolean)).before args0 about1 = true := code_word (m := ⟨2, 20⟩) (meth := k2m20) (c := k2c20) (by decide +kernel) rfl rfl rfl (by decide +kernel)
set_option maxRecDepth 65536 in
theorem w_c41 : (Jvm.Cond.code ({ cls := "RandomConsensus", name := "coinFlips", desc := "(I)I" } : Jvm.MethodName) prog_1_method_14_code (2 : Nat) (Option.some Jvm.ClassFile.FieldType.int)).before args0 about1 = true := code_word (m := ⟨2, 8⟩) (meth := k2m8) (c := k2c8) (by decide +kernel) rfl rfl rfl (by decide +kernel)
set_option maxRecDepth 65536 in
theorem w_c42 : (Jvm.Cond.code ({ cls := "RandomConsensus", name := "coinState", desc := "(I)J" } : Jvm.MethodName) prog_1_method_15_code (2 : Nat) (Option.some Jvm.ClassFile.FieldType.long)).before args0 about1 = true := code_word (m := ⟨2, 9⟩) (meth := k2m9) (c := k2c9) (by decide +kernel) rfl rfl rfl (by decide +kernel)
set_option maxRecDepth 65536 in
theorem w_c43 : (Jvm.Cond.code ({ cls := "RandomConsensus", name := "countFor", desc := "(III)I" } : Jvm.MethodName) prog_1_method_46_code (4 : Nat) (Option.some Jvm.ClassFile.FieldType.int)).before args0 about1 = true := code_word (m := ⟨2, 38⟩) (meth := k2m38) (c := k2c38) (by decide +kernel) rfl rfl rfl (by decide +kernel)
set_option maxRecDepth 65536 in
theorem w_c44 : (Jvm.Cond.code ({ cls := "RandomConsensus", name := "adoptValue", desc := "(IIII)V" } : Jvm.MethodName) prog_1_method_49_code (5 : Nat) (Option.none : Option Jvm.ClassFile.FieldType)).before args0 about1 = true := code_word (m := ⟨2, 41⟩) (meth := k2m41) (c := k2c41) (by decide +kernel) rfl rfl rfl (by decide +kernel)
def codes1 : List Jvm.Cond := [Jvm.Cond.code x code maxLocals ret, Jvm.Cond.code ({ cls := "RandomConsensus", name := "<init>", desc := "(II)V" } : Jvm.MethodName) prog_1_method_1_code (3 : Nat) (Option.none : Option Jvm.ClassFile.FieldType), Jvm.Cond.code ({ cls := "java/lang/Object", name := "<init>", desc := "()V" } : Jvm.MethodName) object_method_1_code (1 : Nat) (Option.none : Option Jvm.ClassFile.FieldType), Jvm.Cond.code ({ cls := "RandomConsensus", name := "clamp", desc := "(III)I" } : Jvm.MethodName) prog_1_method_20_code (4 : Nat) (Option.some Jvm.ClassFile.FieldType.int), Jvm.Cond.code ({ cls := "RandomConsensus", name := "resetAllProcesses", desc := "()V" } : Jvm.MethodName) prog_1_method_17_code (2 : Nat) (Option.none : Option Jvm.ClassFile.FieldType), Jvm.Cond.code ({ cls := "RandomConsensus", name := "resetProcess", desc := "(I)V" } : Jvm.MethodName) prog_1_method_18_code (2 : Nat) (Option.none : Option Jvm.ClassFile.FieldType), Jvm.Cond.code ({ cls := "RandomConsensus", name := "validProcess", desc := "(I)Z" } : Jvm.MethodName) prog_1_method_21_code (2 : Nat) (Option.some Jvm.ClassFile.FieldType.boolean), Jvm.Cond.code ({ cls := "RandomConsensus", name := "resetAllMessages", desc := "()V" } : Jvm.MethodName) prog_1_method_19_code (2 : Nat) (Option.none : Option Jvm.ClassFile.FieldType), Jvm.Cond.code ({ cls := "RandomConsensus", name := "setInput", desc := "(IIII)Z" } : Jvm.MethodName) prog_1_method_2_code (5 : Nat) (Option.some Jvm.ClassFile.FieldType.boolean), Jvm.Cond.code ({ cls := "RandomConsensus", name := "validInputValue", desc := "(I)Z" } : Jvm.MethodName) prog_1_method_24_code (2 : Nat) (Option.some Jvm.ClassFile.FieldType.boolean), Jvm.Cond.code ({ cls := "RandomConsensus", name := "composeSeed", desc := "(II)J" } : Jvm.MethodName) prog_1_method_28_code (7 : Nat) (Option.some Jvm.ClassFile.FieldType.long), Jvm.Cond.code ({ cls := "RandomConsensus", name := "broadcast", desc := "(IIII)V" } : Jvm.MethodName) prog_1_method_36_code (6 : Nat) (Option.none : Option Jvm.ClassFile.FieldType), Jvm.Cond.code ({ cls := "RandomConsensus", name := "validMessageValue", desc := "(I)Z" } : Jvm.MethodName) prog_1_method_25_code (2 : Nat) (Option.some Jvm.ClassFile.FieldType.boolean), Jvm.Cond.code ({ cls := "RandomConsensus", name := "writeSent", desc := "(IIII)V" } : Jvm.MethodName) prog_1_method_33_code (5 : Nat) (Option.none : Option Jvm.ClassFile.FieldType), Jvm.Cond.code ({ cls := "RandomConsensus", name := "validSlot", desc := "(IIII)Z" } : Jvm.MethodName) prog_1_method_31_code (5 : Nat) (Option.some Jvm.ClassFile.FieldType.boolean), Jvm.Cond.code ({ cls := "RandomConsensus", name := "validRound", desc := "(I)Z" } : Jvm.MethodName) prog_1_method_22_code (2 : Nat) (Option.some Jvm.ClassFile.FieldType.boolean), Jvm.Cond.code ({ cls := "RandomConsensus", name := "validPhase", desc := "(I)Z" } : Jvm.MethodName) prog_1_method_23_code (2 : Nat) (Option.some Jvm.ClassFile.FieldType.boolean), Jvm.Cond.code ({ cls := "RandomConsensus", name := "sentIndex", desc := "(III)I" } : Jvm.MethodName) prog_1_method_29_code (4 : Nat) (Option.some Jvm.ClassFile.FieldType.int), Jvm.Cond.code ({ cls := "RandomConsensus", name := "writeCopy", desc := "(IIIII)V" } : Jvm.MethodName) prog_1_method_35_code (6 : Nat) (Option.none : Option Jvm.ClassFile.FieldType), Jvm.Cond.code ({ cls := "RandomConsensus", name := "copyIndex", desc := "(IIII)I" } : Jvm.MethodName) prog_1_method_30_code (5 : Nat) (Option.some Jvm.ClassFile.FieldType.int), Jvm.Cond.code ({ cls := "RandomConsensus", name := "step", desc := "(I)V" } : Jvm.MethodName) prog_1_method_42_code (4 : Nat) (Option.none : Option Jvm.ClassFile.FieldType), Jvm.Cond.code ({ cls := "RandomConsensus", name := "stepOnce", desc := "(I)Z" } : Jvm.MethodName) prog_1_method_43_code (6 : Nat) (Option.some Jvm.ClassFile.FieldType.boolean), Jvm.Cond.code ({ cls := "RandomConsensus", name := "heldCount", desc := "(III)I" } : Jvm.MethodName) prog_1_method_40_code (6 : Nat) (Option.some Jvm.ClassFile.FieldType.int), Jvm.Cond.code ({ cls := "RandomConsensus", name := "readCopy", desc := "(IIII)I" } : Jvm.MethodName) prog_1_method_34_code (5 : Nat) (Option.some Jvm.ClassFile.FieldType.int), Jvm.Cond.code ({ cls := "RandomConsensus", name := "deliver", desc := "(IIII)I" } : Jvm.MethodName) prog_1_method_3_code (7 : Nat) (Option.some Jvm.ClassFile.FieldType.int), Jvm.Cond.code ({ cls := "RandomConsensus", name := "bitSet", desc := "(II)Z" } : Jvm.MethodName) prog_1_method_26_code (3 : Nat) (Option.some Jvm.ClassFile.FieldType.boolean), Jvm.Cond.code ({ cls := "RandomConsensus", name := "deliverToReceiver", desc := "(IIII)I" } : Jvm.MethodName) prog_1_method_38_code (7 : Nat) (Option.some Jvm.ClassFile.FieldType.int), Jvm.Cond.code ({ cls := "RandomConsensus", name := "deliverPair", desc := "(IIII)Z" } : Jvm.MethodName) prog_1_method_39_code (5 : Nat) (Option.some Jvm.ClassFile.FieldType.boolean), Jvm.Cond.code ({ cls := "RandomConsensus", name := "heldValueCount", desc := "(IIII)I" } : Jvm.MethodName) prog_1_method_41_code (7 : Nat) (Option.some Jvm.ClassFile.FieldType.int), Jvm.Cond.code ({ cls := "RandomConsensus", name := "readSent", desc := "(III)I" } : Jvm.MethodName) prog_1_method_32_code (4 : Nat) (Option.some Jvm.ClassFile.FieldType.int), Jvm.Cond.code ({ cls := "RandomConsensus", name := "finishReportPhase", desc := "(IIII)V" } : Jvm.MethodName) prog_1_method_47_code (6 : Nat) (Option.none : Option Jvm.ClassFile.FieldType), Jvm.Cond.code ({ cls := "RandomConsensus", name := "reportOutcome", desc := "(II)I" } : Jvm.MethodName) prog_1_method_44_code (3 : Nat) (Option.some Jvm.ClassFile.FieldType.int), Jvm.Cond.code ({ cls := "RandomConsensus", name := "finishProposalPhase", desc := "(IIII)Z" } : Jvm.MethodName) prog_1_method_48_code (7 : Nat) (Option.some Jvm.ClassFile.FieldType.boolean), Jvm.Cond.code ({ cls := "RandomConsensus", name := "proposalOutcome", desc := "(II)I" } : Jvm.MethodName) prog_1_method_45_code (3 : Nat) (Option.some Jvm.ClassFile.FieldType.int), Jvm.Cond.code ({ cls := "RandomConsensus", name := "drawCoin", desc := "(I)V" } : Jvm.MethodName) prog_1_method_50_code (4 : Nat) (Option.none : Option Jvm.ClassFile.FieldType), Jvm.Cond.code ({ cls := "RandomConsensus", name := "status", desc := "(I)I" } : Jvm.MethodName) prog_1_method_5_code (2 : Nat) (Option.some Jvm.ClassFile.FieldType.int), Jvm.Cond.code ({ cls := "RandomConsensus", name := "sentValue", desc := "(III)I" } : Jvm.MethodName) prog_1_method_12_code (4 : Nat) (Option.some Jvm.ClassFile.FieldType.int), Jvm.Cond.code ({ cls := "RandomConsensus", name := "decision", desc := "(I)I" } : Jvm.MethodName) prog_1_method_10_code (2 : Nat) (Option.some Jvm.ClassFile.FieldType.int), Jvm.Cond.code ({ cls := "RandomConsensus", name := "decisionRound", desc := "(I)I" } : Jvm.MethodName) prog_1_method_11_code (2 : Nat) (Option.some Jvm.ClassFile.FieldType.int), Jvm.Cond.code ({ cls := "RandomConsensus", name := "estimate", desc := "(I)I" } : Jvm.MethodName) prog_1_method_8_code (2 : Nat) (Option.some Jvm.ClassFile.FieldType.int), Jvm.Cond.code ({ cls := "RandomConsensus", name := "hasInput", desc := "(I)Z" } : Jvm.MethodName) prog_1_method_27_code (2 : Nat) (Option.some Jvm.ClassFile.FieldType.boolean), Jvm.Cond.code ({ cls := "RandomConsensus", name := "coinFlips", desc := "(I)I" } : Jvm.MethodName) prog_1_method_14_code (2 : Nat) (Option.some Jvm.ClassFile.FieldType.int), Jvm.Cond.code ({ cls := "RandomConsensus", name := "coinState", desc := "(I)J" } : Jvm.MethodName) prog_1_method_15_code (2 : Nat) (Option.some Jvm.ClassFile.FieldType.long), Jvm.Cond.code ({ cls := "RandomConsensus", name := "countFor", desc := "(III)I" } : Jvm.MethodName) prog_1_method_46_code (4 : Nat) (Option.some Jvm.ClassFile.FieldType.int), Jvm.Cond.code ({ cls := "RandomConsensus", name := "adoptValue", desc := "(IIII)V" } : Jvm.MethodName) prog_1_method_49_code (5 : Nat) (Option.none : Option Jvm.ClassFile.FieldType)]
set_option maxRecDepth 65536 in
theorem codes_eq : words1.filter isCode = codes1 := rfl
theorem w_codes : ∀ c ∈ words1.filter isCode, c.before args0 about1 = true := by
  rw [codes_eq]
  intro c hc
  simp only [codes1, List.mem_cons, List.not_mem_nil, or_false] at hc
  rcases hc with rfl | rfl | rfl | rfl | rfl | rfl | rfl | rfl | rfl | rfl | rfl | rfl | rfl | rfl | rfl | rfl | rfl | rfl | rfl | rfl | rfl | rfl | rfl | rfl | rfl | rfl | rfl | rfl | rfl | rfl | rfl | rfl | rfl | rfl | rfl | rfl | rfl | rfl | rfl | rfl | rfl | rfl | rfl | rfl | rfl
  · exact w_c0
  · exact w_c1
  · exact w_c2
  · exact w_c3
  · exact w_c4
  · exact w_c5
  · exact w_c6
  · exact w_c7
  · exact w_c8
  · exact w_c9
  · exact w_c10
  · exact w_c11
  · exact w_c12
  · exact w_c13
  · exact w_c14
  · exact w_c15
  · exact w_c16
  · exact w_c17
  · exact w_c18
  · exact w_c19
  · exact w_c20
  · exact w_c21
  · exact w_c22
  · exact w_c23
  · exact w_c24
  · exact w_c25
  · exact w_c26
  · exact w_c27
  · exact w_c28
  · exact w_c29
  · exact w_c30
  · exact w_c31
  · exact w_c32
  · exact w_c33
  · exact w_c34
  · exact w_c35
  · exact w_c36
  · exact w_c37
  · exact w_c38
  · exact w_c39
  · exact w_c40
  · exact w_c41
  · exact w_c42
  · exact w_c43
  · exact w_c44
set_option maxRecDepth 65536 in
theorem w_t1 : (words1.take 24).all (fun c => isCode c || c.before args0 about1) = true := by decide +kernel
set_option maxRecDepth 65536 in
theorem w_t2 : ((words1.drop 24).take 24).all (fun c => isCode c || c.before args0 about1) = true := by decide +kernel
set_option maxRecDepth 65536 in
theorem w_t3 : (((words1.drop 24).drop 24).take 24).all (fun c => isCode c || c.before args0 about1) = true := by decide +kernel
set_option maxRecDepth 65536 in
theorem w_t4 : ((((words1.drop 24).drop 24).drop 24).take 24).all (fun c => isCode c || c.before args0 about1) = true := by decide +kernel
set_option maxRecDepth 65536 in
theorem w_t5 : (((((words1.drop 24).drop 24).drop 24).drop 24).take 24).all (fun c => isCode c || c.before args0 about1) = true := by decide +kernel
set_option maxRecDepth 65536 in
theorem w_t6 : ((((((words1.drop 24).drop 24).drop 24).drop 24).drop 24).take 24).all (fun c => isCode c || c.before args0 about1) = true := by decide +kernel
set_option maxRecDepth 65536 in
theorem w_t7 : (((((((words1.drop 24).drop 24).drop 24).drop 24).drop 24).drop 24).take 24).all (fun c => isCode c || c.before args0 about1) = true := by decide +kernel
set_option maxRecDepth 65536 in
theorem w_t8 : ((((((((words1.drop 24).drop 24).drop 24).drop 24).drop 24).drop 24).drop 24).take 24).all (fun c => isCode c || c.before args0 about1) = true := by decide +kernel
set_option maxRecDepth 65536 in
theorem w_t9 : (((((((((words1.drop 24).drop 24).drop 24).drop 24).drop 24).drop 24).drop 24).drop 24).take 24).all (fun c => isCode c || c.before args0 about1) = true := by decide +kernel
set_option maxRecDepth 65536 in
theorem w_t10 : (((((((((words1.drop 24).drop 24).drop 24).drop 24).drop 24).drop 24).drop 24).drop 24).drop 24).all (fun c => isCode c || c.before args0 about1) = true := by decide +kernel
theorem w_tables : (allAtoms (Jvm.Cond.code x code maxLocals ret :: tables_1)).before args0 about1 = true := by
  rw [allAtoms_all]
  show words1.all (fun c => c.before args0 about1) = true
  refine all_split ?_ w_codes
  rw [← List.take_append_drop 24 words1, List.all_append, w_t1, ← List.take_append_drop 24 (words1.drop 24), List.all_append, w_t2, ← List.take_append_drop 24 ((words1.drop 24).drop 24), List.all_append, w_t3, ← List.take_append_drop 24 (((words1.drop 24).drop 24).drop 24), List.all_append, w_t4, ← List.take_append_drop 24 ((((words1.drop 24).drop 24).drop 24).drop 24), List.all_append, w_t5, ← List.take_append_drop 24 (((((words1.drop 24).drop 24).drop 24).drop 24).drop 24), List.all_append, w_t6, ← List.take_append_drop 24 ((((((words1.drop 24).drop 24).drop 24).drop 24).drop 24).drop 24), List.all_append, w_t7, ← List.take_append_drop 24 (((((((words1.drop 24).drop 24).drop 24).drop 24).drop 24).drop 24).drop 24), List.all_append, w_t8, ← List.take_append_drop 24 ((((((((words1.drop 24).drop 24).drop 24).drop 24).drop 24).drop 24).drop 24).drop 24), List.all_append, w_t9, w_t10]
  rfl
set_option maxRecDepth 65536 in
theorem w_case : (Jvm.Cond.and given_1 narrow_1).before args0 about1 = true := by decide +kernel
theorem w_applies : (headSpec (Jvm.Cond.code x code maxLocals ret :: tables_1) room_1).applies x e0.platform about1 = true :=
  (Spec.applies_iff w_frames).mpr ⟨w_running, w_runnable, w_alone, w_named, w_hears, w_ripe, w_room, w_tables⟩
theorem atStart : AtStart classFile x code maxLocals ret World_1 tables_1 room_1 Calls_1 rest_1 Pre_1 launch0 p0 e0 about1 theMethod args0 below0 :=
  ⟨lists_1, trivial, launch0.admits_env _ _ _, launch0.least_env, fairChoices_fair.cas, fairChoices_fair.clock, w_frames, w_args, w_heap, w_applies, trivial, trivial, w_case⟩
end start1
theorem witness_1 : WitnessClaimed_1 := ⟨start1.p0, start1.e0, start1.about1, start1.theMethod, start1.args0, start1.below0, start1.atStart⟩
end Jvm.Pilot.@@N@@
