import JvmDerived
import JvmDerived.Pilot.@@N@@Statement
import JvmDerived.Pilot.@@N@@Code
set_option linter.unusedVariables false
set_option linter.unusedSimpArgs false
@@BLOCK:NumsL.lean.txt@@
namespace Jvm.LM
open Sem ClassFile Op Lib Jvm.Stand Jvm.Free Jvm.LawKit Jvm.RoadKit
/-! A small machine over plain data that mirrors the bytecode of one class and of a law over it. -/
abbrev Lv := List (Option Value)
abbrev St := (Nat → Nat → Int32) × (Nat → Nat → Int64)
abbrev Cd := List (Nat × Instr × Nat)
/-- name, descriptor, kind (0 int, 1 boolean, 2 long, 3+j the j-th array), final -/
abbrev Fe := String × String × Nat × Bool
/-- name, descriptor, number of arguments, return kind (0 none, 1 int, 2 boolean, 3 long), code, max_locals, room: frames, locals -/
abbrev Me := String × String × Nat × Nat × Cd × Nat × Nat × Nat
/-- class name, fields, arrays (kind, length), pool to field, pool to method, pool to constant, methods, pool index of Object's constructor -/
abbrev Cl := String × List (Nat × Fe) × List (Nat × Nat) × List (Nat × Nat) × List (Nat × Nat) × List (Nat × Value) × List (Nat × Me) × Nat
def Me.nm (m : Me) : String := m.1
def Me.ds (m : Me) : String := m.2.1
def Me.na (m : Me) : Nat := m.2.2.1
def Me.rt (m : Me) : Nat := m.2.2.2.1
def Me.cd (m : Me) : Cd := m.2.2.2.2.1
def Me.ml (m : Me) : Nat := m.2.2.2.2.2.1
def Me.rf (m : Me) : Nat := m.2.2.2.2.2.2.1
def Me.rl (m : Me) : Nat := m.2.2.2.2.2.2.2
def Cl.nm (P : Cl) : String := P.1
def Cl.fs (P : Cl) : List (Nat × Fe) := P.2.1
def Cl.al (P : Cl) : List (Nat × Nat) := P.2.2.1
def Cl.fx (P : Cl) : List (Nat × Nat) := P.2.2.2.1
def Cl.mx (P : Cl) : List (Nat × Nat) := P.2.2.2.2.1
def Cl.kx (P : Cl) : List (Nat × Value) := P.2.2.2.2.2.1
def Cl.ms (P : Cl) : List (Nat × Me) := P.2.2.2.2.2.2.1
def Cl.oi (P : Cl) : Nat := P.2.2.2.2.2.2.2
def gI (s : St) (c j : Nat) : Int32 := s.1 c j
def gL (s : St) (c j : Nat) : Int64 := s.2 c j
def sI (s : St) (c j : Nat) (v : Int32) : St := (fun a b => if a = c ∧ b = j then v else s.1 a b, s.2)
def sL (s : St) (c j : Nat) (v : Int64) : St := (s.1, fun a b => if a = c ∧ b = j then v else s.2 a b)
def s0 : St := (fun _ _ => 0, fun _ _ => 0)
def ix (i : Int32) : Nat := i.toNatClampNeg
abbrev inb (n : Nat) (i : Int32) : Prop := 0 ≤ i.toInt ∧ i.toInt < (n : Int)
def asc {α : Type} : List (Nat × α) → Nat → Option α
  | [], _ => none
  | (a, b) :: r, k => match Nat.beq a k with
    | true => some b
    | false => asc r k
def fetch : Cd → Nat → Option (Instr × Nat)
  | [], _ => none
  | (a, b) :: r, k => match Nat.beq a k with
    | true => some b
    | false => fetch r k
def ilen : Instr → Nat
  | .iload _ => 2 | .lload _ => 2 | .aload _ => 2 | .istore _ => 2 | .lstore _ => 2 | .astore _ => 2 | .bipush _ => 2 | .ldc _ => 2 | .newarray _ => 2
  | .sipush _ => 3 | .iinc _ _ => 3 | .goto _ => 3 | .ifCond _ _ => 3 | .if_icmp _ _ => 3 | .getfield _ => 3 | .putfield _ => 3
  | .invokevirtual _ => 3 | .invokespecial _ => 3 | .invokestatic _ => 3 | .new _ => 3 | .ldc2_w _ => 3
  | _ => 1
def isSw : Instr → Bool
  | .tableswitch _ _ _ _ => true
  | _ => false
def clr (ls : Lv) : Nat → Lv
  | 0 => ls
  | j + 1 => match ls[j]? with
    | some (some (.long _)) => ls.set j none
    | some (some (.double _)) => ls.set j none
    | _ => ls
/-- a store into the local variables: a long takes two -/
def stl (ls : Lv) (i : Nat) (v : Value) : Option Lv :=
  match v with
  | .long x => if i + 1 < ls.length then some (((clr ls i).set i (some (.long x))).set (i + 1) none) else none
  | w => if i < ls.length then some ((clr ls i).set i (some w)) else none
def br (cd : ClassFile.Cond) (x y : Int32) (a b : Nat) : Nat :=
  match cd with
  | .eq => if x = y then a else b
  | .ne => if x = y then b else a
  | .lt => if x < y then a else b
  | .ge => if x < y then b else a
  | .gt => if y < x then a else b
  | .le => if y < x then b else a
def jmp (pc : Nat) (o : Int) : Nat := ((pc : Int) + o).toNat
def qstep (i : Instr) (pc : Nat) (st : List Value) : Option (Nat × List Value) :=
  match i with
  | .iconst v => some (pc + 1, .int (Int32.ofInt v) :: st)
  | .bipush v => some (pc + 2, .int (Int8.ofInt v).toInt32 :: st)
  | .sipush v => some (pc + 3, .int (Int16.ofInt v).toInt32 :: st)
  | .lconst k => some (pc + 1, .long (Int64.ofNat k) :: st)
  | .iadd => match st with | .int y :: .int x :: r => some (pc + 1, .int (x + y) :: r) | _ => none
  | .isub => match st with | .int y :: .int x :: r => some (pc + 1, .int (x - y) :: r) | _ => none
  | .imul => match st with | .int y :: .int x :: r => some (pc + 1, .int (x * y) :: r) | _ => none
  | .iand => match st with | .int y :: .int x :: r => some (pc + 1, .int (x &&& y) :: r) | _ => none
  | .ior => match st with | .int y :: .int x :: r => some (pc + 1, .int (x ||| y) :: r) | _ => none
  | .ixor => match st with | .int y :: .int x :: r => some (pc + 1, .int (x ^^^ y) :: r) | _ => none
  | .ishl => match st with | .int y :: .int x :: r => some (pc + 1, .int (x <<< (y &&& 31)) :: r) | _ => none
  | .ishr => match st with | .int y :: .int x :: r => some (pc + 1, .int (x >>> (y &&& 31)) :: r) | _ => none
  | .iushr => match st with | .int y :: .int x :: r => some (pc + 1, .int (XT.ushr x y) :: r) | _ => none
  | .idiv => match st with | .int y :: .int x :: r => if y = 0 then none else some (pc + 1, .int (x / y) :: r) | _ => none
  | .irem => match st with | .int y :: .int x :: r => if y = 0 then none else some (pc + 1, .int (x % y) :: r) | _ => none
  | .ineg => match st with | .int x :: r => some (pc + 1, .int (-x) :: r) | _ => none
  | .ladd => match st with | .long y :: .long x :: r => some (pc + 1, .long (x + y) :: r) | _ => none
  | .lsub => match st with | .long y :: .long x :: r => some (pc + 1, .long (x - y) :: r) | _ => none
  | .lmul => match st with | .long y :: .long x :: r => some (pc + 1, .long (x * y) :: r) | _ => none
  | .land => match st with | .long y :: .long x :: r => some (pc + 1, .long (x &&& y) :: r) | _ => none
  | .lor => match st with | .long y :: .long x :: r => some (pc + 1, .long (x ||| y) :: r) | _ => none
  | .lxor => match st with | .long y :: .long x :: r => some (pc + 1, .long (x ^^^ y) :: r) | _ => none
  | .lshl => match st with | .int y :: .long x :: r => some (pc + 1, .long (x <<< (y.toInt64 &&& 63)) :: r) | _ => none
  | .lshr => match st with | .int y :: .long x :: r => some (pc + 1, .long (x >>> (y.toInt64 &&& 63)) :: r) | _ => none
  | .lushr => match st with | .int y :: .long x :: r => some (pc + 1, .long (XT.ushrL x y) :: r) | _ => none
  | .ldiv => match st with | .long y :: .long x :: r => if y = 0 then none else some (pc + 1, .long (x / y) :: r) | _ => none
  | .lneg => match st with | .long x :: r => some (pc + 1, .long (-x) :: r) | _ => none
  | .lcmp => match st with | .long y :: .long x :: r => some (pc + 1, .int (XT.cmpL x y) :: r) | _ => none
  | .i2l => match st with | .int x :: r => some (pc + 1, .long x.toInt64 :: r) | _ => none
  | .l2i => match st with | .long x :: r => some (pc + 1, .int x.toInt32 :: r) | _ => none
  | .dup => match st with | .int x :: r => some (pc + 1, .int x :: .int x :: r) | .ref x :: r => some (pc + 1, .ref x :: .ref x :: r) | _ => none
  | .pop => match st with | .int _ :: r => some (pc + 1, r) | .ref _ :: r => some (pc + 1, r) | _ => none
  | .goto o => if 0 ≤ (pc : Int) + o then some (jmp pc o, st) else none
  | .ifCond cd o => match st with | .int x :: r => if 0 ≤ (pc : Int) + o then some (br cd x 0 (jmp pc o) (pc + 3), r) else none | _ => none
  | .if_icmp cd o => match st with | .int y :: .int x :: r => if 0 ≤ (pc : Int) + o then some (br cd x y (jmp pc o) (pc + 3), r) else none | _ => none
  | .tableswitch d lo hi offs => match st with
    | .int x :: r => if x.toInt < lo ∨ x.toInt > hi then (if 0 ≤ (pc : Int) + d then some (jmp pc d, r) else none)
      else (match offs[(x.toInt - lo).toNat]? with | some o => if 0 ≤ (pc : Int) + o then some (jmp pc o, r) else none | none => none)
    | _ => none
  | _ => none
def pstep (i : Instr) (pc : Nat) (ls : Lv) (st : List Value) : Option (Nat × Lv × List Value) :=
  match i with
  | .iload_n k => match ls[k.val]? with | some (some (.int v)) => some (pc + 1, ls, .int v :: st) | _ => none
  | .iload k => match ls[k]? with | some (some (.int v)) => some (pc + 2, ls, .int v :: st) | _ => none
  | .lload_n k => match ls[k.val]? with | some (some (.long v)) => some (pc + 1, ls, .long v :: st) | _ => none
  | .lload k => match ls[k]? with | some (some (.long v)) => some (pc + 2, ls, .long v :: st) | _ => none
  | .aload_n k => match ls[k.val]? with | some (some (.ref v)) => some (pc + 1, ls, .ref v :: st) | _ => none
  | .aload k => match ls[k]? with | some (some (.ref v)) => some (pc + 2, ls, .ref v :: st) | _ => none
  | .istore_n k => match st with | .int v :: r => (match stl ls k.val (.int v) with | some l => some (pc + 1, l, r) | none => none) | _ => none
  | .istore k => match st with | .int v :: r => (match stl ls k (.int v) with | some l => some (pc + 2, l, r) | none => none) | _ => none
  | .lstore_n k => match st with | .long v :: r => (match stl ls k.val (.long v) with | some l => some (pc + 1, l, r) | none => none) | _ => none
  | .lstore k => match st with | .long v :: r => (match stl ls k (.long v) with | some l => some (pc + 2, l, r) | none => none) | _ => none
  | .astore_n k => match st with | .ref v :: r => (match stl ls k.val (.ref v) with | some l => some (pc + 1, l, r) | none => none) | _ => none
  | .astore k => match st with | .ref v :: r => (match stl ls k (.ref v) with | some l => some (pc + 2, l, r) | none => none) | _ => none
  | .iinc k d => match ls[k]? with | some (some (.int v)) => (match stl ls k (.int (v + Int32.ofInt d)) with | some l => some (pc + 3, l, st) | none => none) | _ => none
  | i => match qstep i pc st with | some (pc', st') => some (pc', ls, st') | none => none
/-- how the machine's references stand in the heap -/
def va (ρ : Nat → Nat) : Value → Value
  | .ref c => .ref (ρ c)
  | v => v
def WF (L : Array Slot) : Prop :=
  (∀ (k : Nat) (v : Value), L[k]? = some (Slot.val v) → v.category = 2 → L[k + 1]? = some .second) ∧
  (∀ k : Nat, L[k + 1]? = some Slot.second → ∃ v : Value, L[k]? = some (Slot.val v) ∧ v.category = 2) ∧ L[0]? ≠ some Slot.second
def LR (ρ : Nat → Nat) (ls : Lv) (L : Array Slot) : Prop :=
  L.size = ls.length ∧ (∀ (k : Nat) (v : Value), ls[k]? = some (some v) → L[k]? = some (Slot.val (va ρ v))) ∧ WF L
end Jvm.LM

namespace Jvm.LM
open Sem ClassFile Op Lib Jvm.Stand Jvm.Free Jvm.LawKit Jvm.RoadKit
/-! the local variables -/
def upd (f : Nat → Option Slot) (i : Nat) (x : Slot) : Nat → Option Slot := fun k => if k = i then some x else f k
def WFf (f : Nat → Option Slot) : Prop :=
  (∀ k v, f k = some (.val v) → v.category = 2 → f (k + 1) = some .second) ∧
  (∀ k, f (k + 1) = some .second → ∃ v, f k = some (.val v) ∧ v.category = 2) ∧ f 0 ≠ some .second
def clearF (f : Nat → Option Slot) (i : Nat) : Nat → Option Slot :=
  match f i with
  | some .second => upd (upd f (i - 1) .unset) i .unset
  | some (.val old) => if old.category = 2 then upd (upd f (i + 1) .unset) i .unset else upd f i .unset
  | _ => f
theorem clearF_cases (f : Nat → Option Slot) (i : Nat) : (f i = some .second ∧ clearF f i = upd (upd f (i - 1) .unset) i .unset) ∨ (∃ old, f i = some (.val old) ∧ old.category = 2 ∧ clearF f i = upd (upd f (i + 1) .unset) i .unset) ∨
    (∃ old, f i = some (.val old) ∧ old.category ≠ 2 ∧ clearF f i = upd f i .unset) ∨ ((f i = some .unset ∨ f i = none) ∧ clearF f i = f) := by
  cases h : f i with
  | none => exact Or.inr (Or.inr (Or.inr ⟨Or.inr rfl, by simp only [clearF, h]⟩))
  | some x =>
    cases x with
    | unset => exact Or.inr (Or.inr (Or.inr ⟨Or.inl rfl, by simp only [clearF, h]⟩))
    | second => exact Or.inl ⟨rfl, by simp only [clearF, h]⟩
    | val old =>
      by_cases hc : old.category = 2
      · exact Or.inr (Or.inl ⟨old, rfl, hc, by simp only [clearF, h]; rw [if_pos hc]⟩)
      · exact Or.inr (Or.inr (Or.inl ⟨old, rfl, hc, by simp only [clearF, h]; rw [if_neg hc]⟩))
theorem wff_clear {f : Nat → Option Slot} (h : WFf f) (i : Nat) : WFf (clearF f i) := by
  obtain ⟨h1, h2, h3⟩ := h
  unfold clearF
  split
  · rename_i e
    cases i with
    | zero => exact absurd e h3
    | succ j =>
      refine ⟨fun k v hk hc => ?_, fun k hk => ?_, ?_⟩
      · simp only [upd, Nat.add_sub_cancel] at hk ⊢
        have := h1 k v
        by_cases a : k = j + 1
        · simp [a] at hk
        · by_cases b : k = j
          · simp [b] at hk
          · have c : k + 1 ≠ j + 1 := by omega
            simp only [a, b, if_false] at hk
            by_cases d : k + 1 = j
            · have := h1 k v hk hc
              obtain ⟨w, hw, hw2⟩ := h2 j e
              rw [d, hw] at this; cases this
            · simp [c, d, b, h1 k v hk hc]
      · simp only [upd, Nat.add_sub_cancel] at hk ⊢
        by_cases a : k = j
        · simp [a] at hk
        · by_cases b : k + 1 = j
          · simp [b] at hk
          · simp only [show ¬ (k + 1 = j + 1) by omega, b, if_false] at hk
            obtain ⟨w, hw, hw2⟩ := h2 k hk
            by_cases d : k = j + 1
            · rw [d, e] at hw; cases hw
            · exact ⟨w, by simp [d, a, hw], hw2⟩
      · simp only [upd, Nat.add_sub_cancel]
        by_cases b : 0 = j
        · simp [← b]
        · simp [b, h3]
  · rename_i old e
    split
    · rename_i hc2
      have e2 := h1 i old e hc2
      refine ⟨fun k v hk hc => ?_, fun k hk => ?_, ?_⟩
      · simp only [upd] at hk ⊢
        by_cases a : k = i
        · simp [a] at hk
        · by_cases b : k = i + 1
          · simp [b] at hk
          · simp only [a, b, if_false] at hk
            have q := h1 k v hk hc
            by_cases d : k + 1 = i
            · rw [d, e] at q; cases q
            · simp [d, a, show ¬ (k + 1 = i + 1) by omega, q]
      · simp only [upd] at hk ⊢
        by_cases a : k + 1 = i
        · simp [a] at hk
        · by_cases b : k = i
          · simp [b] at hk
          · simp only [a, show ¬ (k + 1 = i + 1) by omega, if_false] at hk
            obtain ⟨w, hw, hw2⟩ := h2 k hk
            by_cases d : k = i + 1
            · rw [d, e2] at hw; cases hw
            · exact ⟨w, by simp [d, b, hw], hw2⟩
      · simp only [upd]
        by_cases b : 0 = i
        · simp [← b]
        · simp [b, h3]
    · rename_i hc2
      refine ⟨fun k v hk hc => ?_, fun k hk => ?_, ?_⟩
      · simp only [upd] at hk ⊢
        by_cases a : k = i
        · simp [a] at hk
        · simp only [a, if_false] at hk
          have q := h1 k v hk hc
          by_cases d : k + 1 = i
          · rw [d, e] at q; cases q
          · simp [d, q]
      · simp only [upd] at hk ⊢
        by_cases a : k + 1 = i
        · simp [a] at hk
        · simp only [a, if_false] at hk
          obtain ⟨w, hw, hw2⟩ := h2 k hk
          by_cases d : k = i
          · rw [d, e] at hw; cases hw; exact absurd hw2 hc2
          · exact ⟨w, by simp [d, hw], hw2⟩
      · simp only [upd]
        by_cases b : 0 = i
        · simp [← b]
        · simp [b, h3]
  · exact ⟨h1, h2, h3⟩
theorem wff_one {f : Nat → Option Slot} (h : WFf f) {i : Nat} (e : f i = some .unset) {v : Value} (hv : v.category ≠ 2) : WFf (upd f i (.val v)) := by
  obtain ⟨h1, h2, h3⟩ := h
  refine ⟨fun k w hk hc => ?_, fun k hk => ?_, ?_⟩
  · simp only [upd] at hk ⊢
    by_cases a : k = i
    · simp only [a, if_true, Option.some.injEq, Slot.val.injEq] at hk; subst hk; exact absurd hc hv
    · simp only [a, if_false] at hk
      have q := h1 k w hk hc
      by_cases d : k + 1 = i
      · rw [d, e] at q; cases q
      · simp [d, q]
  · simp only [upd] at hk ⊢
    by_cases a : k + 1 = i
    · simp [a] at hk
    · simp only [a, if_false] at hk
      obtain ⟨w, hw, hw2⟩ := h2 k hk
      by_cases d : k = i
      · rw [d, e] at hw; cases hw
      · exact ⟨w, by simp [d, hw], hw2⟩
  · simp only [upd]
    by_cases b : 0 = i
    · simp [← b]
    · simp [b, h3]
theorem wff_two {f : Nat → Option Slot} (h : WFf f) {i : Nat} (e : f i = some .unset) (e' : f (i + 1) = some .unset) {v : Value} (hv : v.category = 2) : WFf (upd (upd f i (.val v)) (i + 1) .second) := by
  obtain ⟨h1, h2, h3⟩ := h
  refine ⟨fun k w hk hc => ?_, fun k hk => ?_, ?_⟩
  · simp only [upd] at hk ⊢
    by_cases a : k = i + 1
    · simp [a] at hk
    · by_cases b : k = i
      · simp [b]
      · simp only [a, b, if_false] at hk
        have q := h1 k w hk hc
        by_cases d : k + 1 = i
        · rw [d, e] at q; cases q
        · simp [d, show ¬ (k + 1 = i + 1) by omega, q]
  · simp only [upd] at hk ⊢
    by_cases a : k = i
    · exact ⟨v, by simp [a], hv⟩
    · by_cases b : k + 1 = i
      · simp [b] at hk
      · simp only [show ¬ (k + 1 = i + 1) by omega, b, if_false] at hk
        obtain ⟨w, hw, hw2⟩ := h2 k hk
        by_cases d : k = i + 1
        · rw [d, e'] at hw; cases hw
        · exact ⟨w, by simp [d, a, hw], hw2⟩
  · simp only [upd]
    by_cases b : 0 = i
    · simp [← b]
    · simp [b, h3]
theorem gset (L : Array Slot) {i : Nat} (hi : i < L.size) (x : Slot) : (fun k => (L.setIfInBounds i x)[k]?) = upd (fun k => L[k]?) i x := by
  funext k
  simp only [upd, Array.getElem?_setIfInBounds]
  by_cases a : i = k
  · subst a; simp [hi]
  · simp [a, show ¬ k = i from fun h => a h.symm]
theorem sl_eq (L : Array Slot) (i : Nat) (v : Value) : storeLocals L i v = (L[i]?).bind (fun x => match x with
    | .second => (setAt L (i - 1) .unset).bind (fun l => storeSelf l i v)
    | .val old => if old.category = 2 then (setAt L (i + 1) .unset).bind (fun l => storeSelf l i v) else storeSelf L i v
    | .unset => storeSelf L i v) := rfl
theorem ss_eq (L : Array Slot) (i : Nat) (v : Value) : storeSelf L i v = (setAt L i (.val v)).bind (fun l => if v.category = 2 then (l[i + 1]?).bind (fun x => match x with
    | .val old => if old.category = 2 then (setAt l (i + 2) .unset).bind (fun l' => setAt l' (i + 1) .second) else setAt l (i + 1) .second
    | _ => setAt l (i + 1) .second) else some l) := rfl
theorem sa_eq {L : Array Slot} {i : Nat} (hi : i < L.size) (x : Slot) : setAt L i x = some (L.setIfInBounds i x) := if_pos hi
theorem upd_upd (f : Nat → Option Slot) (i : Nat) (x y : Slot) : upd (upd f i x) i y = upd f i y := by
  funext k; simp only [upd]; split <;> rfl
/-- what a store clears first -/
theorem clear_ok {L : Array Slot} (hW : WF L) {i : Nat} (hi : i < L.size) (v : Value) : ∃ L1, storeLocals L i v = storeSelf L1 i v ∧ L1.size = L.size ∧ upd (fun k => L1[k]?) i .unset = upd (clearF (fun k => L[k]?) i) i .unset := by
  have hh : WFf (fun k => L[k]?) := hW
  obtain ⟨sl, hsl⟩ : ∃ sl, L[i]? = some sl := ⟨L[i], Array.getElem?_eq_getElem hi⟩
  rw [sl_eq, hsl, Option.bind_some]
  cases sl with
  | unset => exact ⟨L, rfl, rfl, by simp only [clearF, hsl]⟩
  | second =>
    refine ⟨L.setIfInBounds (i - 1) .unset, ?_, by simp, ?_⟩
    · show (setAt L (i - 1) .unset).bind _ = _
      rw [sa_eq (by omega)]; rfl
    · rw [gset _ (by omega)]; simp only [clearF, hsl, upd_upd]
  | val old =>
    by_cases hc : old.category = 2
    · have h2 := hh.1 i old hsl hc
      have hlt : i + 1 < L.size := (Array.getElem?_eq_some_iff.mp h2).1
      refine ⟨L.setIfInBounds (i + 1) .unset, ?_, by simp, ?_⟩
      · show (if old.category = 2 then _ else _) = _
        rw [if_pos hc, sa_eq hlt]; rfl
      · rw [gset _ hlt]; simp only [clearF, hsl, hc, if_true, upd_upd]
    · refine ⟨L, ?_, rfl, ?_⟩
      · show (if old.category = 2 then _ else _) = _
        rw [if_neg hc]
      · simp only [clearF, hsl, hc, if_false, upd_upd]
theorem clearF_at {f : Nat → Option Slot} {i : Nat} (hi : f i ≠ none) : clearF f i i = some .unset := by
  rcases clearF_cases f i with ⟨h1, h2⟩ | ⟨old, h1, h3, h2⟩ | ⟨old, h1, h3, h2⟩ | ⟨h1 | h1, h2⟩
  · rw [h2]; simp [upd]
  · rw [h2]; simp [upd]
  · rw [h2]; simp [upd]
  · rw [h2]; exact h1
  · exact absurd h1 hi
theorem clearF_self {f : Nat → Option Slot} {i : Nat} (hi : f i ≠ none) : upd (clearF f i) i .unset = clearF f i := by
  funext k; simp only [upd]; split
  · rename_i e; rw [e]; exact (clearF_at hi).symm
  · rfl
/-- the other variables: kept, or they held (a part of) a long -/
theorem clearF_keep {f : Nat → Option Slot} (h : WFf f) {i k : Nat} {w : Value} (hk : k ≠ i) (e : f k = some (.val w)) (hw : k + 1 = i → w.category ≠ 2) : clearF f i k = some (.val w) := by
  rcases clearF_cases f i with ⟨e2, h2⟩ | ⟨old, e2, hc, h2⟩ | ⟨old, e2, hc, h2⟩ | ⟨-, h2⟩
  · rw [h2]
    cases i with
    | zero => exact absurd e2 h.2.2
    | succ j =>
      simp only [upd, Nat.add_sub_cancel, hk, if_false]
      split
      · rename_i hj; subst hj
        obtain ⟨v, hv, hv2⟩ := h.2.1 k e2
        rw [e] at hv; cases hv; exact absurd hv2 (hw rfl)
      · exact e
  · rw [h2]
    have q := h.1 i old e2 hc
    simp only [upd, hk, if_false]
    split
    · rename_i hj; rw [hj, q] at e; cases e
    · exact e
  · rw [h2]; simp [upd, hk, e]
  · rw [h2]; exact e
theorem store_one {L : Array Slot} (hW : WF L) {i : Nat} (hi : i < L.size) {v : Value} (hv : v.category ≠ 2) :
    ∃ L', storeLocals L i v = some L' ∧ L'.size = L.size ∧ WF L' ∧ (fun k => L'[k]?) = upd (clearF (fun k => L[k]?) i) i (.val v) := by
  obtain ⟨L1, h1, h2, h3⟩ := clear_ok hW hi v
  have hne : (fun k => L[k]?) i ≠ none := by simp; omega
  have hi1 : i < L1.size := by omega
  refine ⟨L1.setIfInBounds i (.val v), ?_, by simp [h2], ?_, ?_⟩
  · rw [h1, ss_eq, sa_eq hi1, Option.bind_some, if_neg hv]
  · have q : (fun k => (L1.setIfInBounds i (.val v))[k]?) = upd (clearF (fun k => L[k]?) i) i (.val v) := by
      rw [gset _ hi1, ← upd_upd _ i .unset, h3, upd_upd]
    have w : WFf (fun k => (L1.setIfInBounds i (.val v))[k]?) := by
      rw [q]; exact wff_one (wff_clear hW i) (clearF_at hne) hv
    exact w
  · rw [gset _ hi1, ← upd_upd _ i .unset, h3, upd_upd]
theorem store_two {L : Array Slot} (hW : WF L) {i : Nat} (hi : i + 1 < L.size) {v : Value} (hv : v.category = 2) :
    ∃ L', storeLocals L i v = some L' ∧ L'.size = L.size ∧ WF L' ∧ (fun k => L'[k]?) = upd (upd (clearF (clearF (fun k => L[k]?) i) (i + 1)) i (.val v)) (i + 1) .second := by
  obtain ⟨L1, h1, h2, h3⟩ := clear_ok hW (show i < L.size by omega) v
  have hne : (fun k => L[k]?) i ≠ none := by simp; omega
  have hi1 : i < L1.size := by omega
  have hi2 : i + 1 < L1.size := by omega
  rw [clearF_self hne] at h3
  have hWc := wff_clear (f := fun k => L[k]?) hW i
  generalize hF : clearF (fun k => L[k]?) i = F at *
  have hFi : F i = some .unset := by rw [← hF]; exact clearF_at hne
  have g1 : (fun k => (L1.setIfInBounds i (.val v))[k]?) = upd F i (.val v) := by rw [gset _ hi1, ← upd_upd _ i .unset, h3]
  have g2 : (L1.setIfInBounds i (.val v))[i + 1]? = F (i + 1) := by
    have := congrFun g1 (i + 1); simpa [upd] using this
  have hFi1 : F (i + 1) ≠ none := by
    have : (L1.setIfInBounds i (.val v))[i + 1]? ≠ none := by simp; omega
    rw [g2] at this; exact this
  have hns : F (i + 1) ≠ some .second := fun q => by
    obtain ⟨w, hw, -⟩ := hWc.2.1 i q
    rw [hFi] at hw; cases hw
  have key : ∀ G : Nat → Option Slot, WFf G → G i = some .unset → G (i + 1) = some .unset → G = clearF F (i + 1) → WFf (upd (upd (clearF F (i + 1)) i (.val v)) (i + 1) .second) := fun G hG a b e => by rw [← e]; exact wff_two hG a b hv
  have hcl := wff_clear hWc (i + 1)
  have hcli : clearF F (i + 1) i = some .unset := by
    rcases clearF_cases F (i + 1) with ⟨q, h2⟩ | ⟨old, q, hc, h2⟩ | ⟨old, q, hc, h2⟩ | ⟨-, h2⟩
    · exact absurd q hns
    · rw [h2]; simp [upd, hFi]
    · rw [h2]; simp [upd, hFi]
    · rw [h2]; exact hFi
  have hWF := wff_two hcl hcli (clearF_at hFi1) hv
  rw [h1, ss_eq, sa_eq hi1, Option.bind_some, if_pos hv, g2]
  cases hx : F (i + 1) with
  | none => exact absurd hx hFi1
  | some sl =>
    cases sl with
    | second => exact absurd hx hns
    | unset =>
      have e1 : clearF F (i + 1) = F := by simp only [clearF, hx]
      have e3 : (fun k => ((L1.setIfInBounds i (.val v)).setIfInBounds (i + 1) .second)[k]?) = upd (upd (clearF F (i + 1)) i (.val v)) (i + 1) .second := by
        rw [gset _ (by simpa using hi2), g1, e1]
      refine ⟨(L1.setIfInBounds i (.val v)).setIfInBounds (i + 1) .second, ?_, by simp [h2], ?_, e3⟩
      · show setAt _ (i + 1) .second = _
        rw [sa_eq (by simpa using hi2)]
      · have w : WFf (fun k => ((L1.setIfInBounds i (.val v)).setIfInBounds (i + 1) .second)[k]?) := by rw [e3]; exact hWF
        exact w
    | val old =>
      by_cases hc : old.category = 2
      · have q := hWc.1 _ _ hx hc
        have hi3 : i + 2 < L1.size := by
          have q2 : (L1.setIfInBounds i (.val v))[i + 2]? = some .second := by
            have := congrFun g1 (i + 2); simpa [upd, q] using this
          have := (Array.getElem?_eq_some_iff.mp q2).1
          simpa using this
        have e1 : clearF F (i + 1) = upd (upd F (i + 2) .unset) (i + 1) .unset := by simp only [clearF, hx, hc, if_true]
        have e3 : (fun k => (((L1.setIfInBounds i (.val v)).setIfInBounds (i + 2) .unset).setIfInBounds (i + 1) .second)[k]?) = upd (upd (clearF F (i + 1)) i (.val v)) (i + 1) .second := by
          rw [gset _ (by simpa using hi2), gset _ (by simpa using hi3), g1, e1]
          funext k; simp only [upd]
          by_cases a : k = i + 1
          · simp [a]
          · by_cases b : k = i
            · simp [b]
            · simp [a, b]
        refine ⟨((L1.setIfInBounds i (.val v)).setIfInBounds (i + 2) .unset).setIfInBounds (i + 1) .second, ?_, by simp [h2], ?_, e3⟩
        · show (if old.category = 2 then _ else _) = _
          rw [if_pos hc, sa_eq (by simpa using hi3), Option.bind_some, sa_eq (by simpa using hi2)]
        · have w : WFf (fun k => (((L1.setIfInBounds i (.val v)).setIfInBounds (i + 2) .unset).setIfInBounds (i + 1) .second)[k]?) := by rw [e3]; exact hWF
          exact w
      · have e1 : clearF F (i + 1) = upd F (i + 1) .unset := by simp only [clearF, hx, hc, if_false]
        have e3 : (fun k => ((L1.setIfInBounds i (.val v)).setIfInBounds (i + 1) .second)[k]?) = upd (upd (clearF F (i + 1)) i (.val v)) (i + 1) .second := by
          rw [gset _ (by simpa using hi2), g1, e1]
          funext k; simp only [upd]
          by_cases a : k = i + 1
          · simp [a]
          · by_cases b : k = i
            · simp [b]
            · simp [a, b]
        refine ⟨(L1.setIfInBounds i (.val v)).setIfInBounds (i + 1) .second, ?_, by simp [h2], ?_, e3⟩
        · show (if old.category = 2 then _ else _) = _
          rw [if_neg hc, sa_eq (by simpa using hi2)]
        · have w : WFf (fun k => ((L1.setIfInBounds i (.val v)).setIfInBounds (i + 1) .second)[k]?) := by rw [e3]; exact hWF
          exact w
theorem cat_va (ρ : Nat → Nat) (v : Value) : (va ρ v).category = v.category := by cases v <;> rfl
theorem clr_len (ls : Lv) (i : Nat) : (clr ls i).length = ls.length := by
  cases i with
  | zero => rfl
  | succ j => simp only [clr]; split <;> simp
theorem clr_get {ls : Lv} {i k : Nat} {v : Value} (h : (clr ls i)[k]? = some (some v)) : ls[k]? = some (some v) ∧ (k + 1 = i → v.category ≠ 2) := by
  cases i with
  | zero => exact ⟨h, fun q => by omega⟩
  | succ j =>
    simp only [clr] at h
    split at h
    · rename_i x e
      rw [List.getElem?_set] at h
      split at h
      · rename_i hj; subst hj; split at h <;> simp at h
      · rename_i hj; exact ⟨h, fun q => by omega⟩
    · rename_i x e
      rw [List.getElem?_set] at h
      split at h
      · rename_i hj; subst hj; split at h <;> simp at h
      · rename_i hj; exact ⟨h, fun q => by omega⟩
    · rename_i e1 e2
      refine ⟨h, fun q hc => ?_⟩
      have hk : k = j := by omega
      subst hk
      cases v <;> first | exact e1 _ h | exact e2 _ h | (exact Nat.noConfusion (Nat.succ.inj hc))
theorem store_ok {ρ : Nat → Nat} {ls ls' : Lv} {L : Array Slot} {i : Nat} {v : Value} (hL : LR ρ ls L) (hd : ∀ x, v ≠ .double x) (h : stl ls i v = some ls') : ∃ L', storeLocals L i (va ρ v) = some L' ∧ LR ρ ls' L' ∧ L'.size = L.size := by
  obtain ⟨hz, hr, hW⟩ := hL
  have hWf : WFf (fun k => L[k]?) := hW
  by_cases hc : v.category = 2
  · obtain ⟨x, rfl⟩ : ∃ x, v = .long x := by cases v <;> simp [Value.category] at hc <;> first | exact ⟨_, rfl⟩ | exact absurd rfl (hd _)
    simp only [stl] at h
    split at h
    · rename_i hi
      cases h
      obtain ⟨L', a1, a2, a3, a4⟩ := store_two hW (show i + 1 < L.size by omega) (v := va ρ (.long x)) rfl
      refine ⟨L', a1, ⟨by simp [a2, hz, clr_len], fun k w hk => ?_, a3⟩, a2⟩
      have q : L'[k]? = _ := congrFun a4 k
      rw [q]
      rw [List.getElem?_set] at hk
      split at hk
      · simp at hk
      · rename_i hk1
        rw [List.getElem?_set] at hk
        split at hk
        · rename_i hk2; subst hk2
          simp only [clr_len] at hk
          split at hk
          · cases hk; simp [upd]
          · simp at hk
        · rename_i hk2
          obtain ⟨b1, b2⟩ := clr_get hk
          have b3 := hr _ _ b1
          have b4 : clearF (fun k => L[k]?) i k = some (.val (va ρ w)) := clearF_keep hWf (fun q => hk2 q.symm) b3 (fun q => by rw [cat_va]; exact b2 q)
          have b5 := clearF_keep (wff_clear hWf i) (i := i + 1) (fun q => hk1 q.symm) b4 (fun q => absurd (Nat.succ.inj q) fun z => hk2 z.symm)
          simp only [upd, show ¬ k = i + 1 from fun q => hk1 q.symm, show ¬ k = i from fun q => hk2 q.symm, if_false]
          exact b5
    · cases h
  · have hs : stl ls i v = if i < ls.length then some ((clr ls i).set i (some v)) else none := by cases v <;> first | rfl | exact absurd rfl hc
    rw [hs] at h
    split at h
    · rename_i hi
      cases h
      obtain ⟨L', a1, a2, a3, a4⟩ := store_one hW (show i < L.size by omega) (v := va ρ v) (by rw [cat_va]; exact hc)
      refine ⟨L', a1, ⟨by simp [a2, hz, clr_len], fun k w hk => ?_, a3⟩, a2⟩
      have q : L'[k]? = _ := congrFun a4 k
      rw [q]
      rw [List.getElem?_set] at hk
      split at hk
      · rename_i hk2; subst hk2
        simp only [clr_len] at hk
        split at hk
        · cases hk; simp [upd]
        · omega
      · rename_i hk2
        obtain ⟨b1, b2⟩ := clr_get hk
        have b3 := hr _ _ b1
        have b4 : clearF (fun k => L[k]?) i k = some (.val (va ρ w)) := clearF_keep hWf (fun q => hk2 q.symm) b3 (fun q => by rw [cat_va]; exact b2 q)
        simp only [upd, show ¬ k = i from fun q => hk2 q.symm, if_false]
        exact b4
    · cases h
end Jvm.LM

namespace Jvm.LM
open Sem ClassFile Op Lib Jvm.Stand Jvm.Free Jvm.LawKit Jvm.RoadKit
section Pure
variable {p : Program} {l : Launch} {e : Env} {R : Room} {s : State} {m : MethodId} {args : Array Value} {below : List Frame} {meth : Method} {c : Code} {T : State} {locs : List Loc} {cells slots : Nat}
theorem br_eq (cd : ClassFile.Cond) (x y : Int32) (a b : Nat) : br cd x y a b = if if_icmp.holds cd x y = true then a else b := by
  cases cd <;> simp only [br]
  · by_cases h : x = y <;> simp [h, XT.ii_eq_t, XT.ii_eq_f]
  · by_cases h : x = y
    · rw [if_pos h, XT.ii_ne_f h]; rfl
    · rw [if_neg h, XT.ii_ne_t h]; rfl
  · by_cases h : x < y
    · rw [if_pos h, XT.ii_lt_t h]; rfl
    · rw [if_neg h, XT.ii_lt_f h]; rfl
  · by_cases h : x < y
    · rw [if_pos h, XT.ii_ge_f h]; rfl
    · rw [if_neg h, XT.ii_ge_t h]; rfl
  · by_cases h : y < x
    · rw [if_pos h, XT.ii_gt_t h]; rfl
    · rw [if_neg h, XT.ii_gt_f h]; rfl
  · by_cases h : y < x
    · rw [if_pos h, XT.ii_le_f h]; rfl
    · rw [if_neg h, XT.ii_le_t h]; rfl
theorem qstep_sound (X : Stand p l e R s m args below meth c T locs cells slots) (hx : p.tables.exec = Jvm.exec) {ρ : Nat → Nat} {i : Instr} {n pc pc' : Nat} {st st' : List Value}
    (h : qstep i pc st = some (pc', st')) (hd : decode c.code pc = .ok (i, n)) (hn : isSw i = true ∨ n = ilen i) {L : Array Slot} :
    ∀ target, Steps p.tables e below (T.setTop (mkF m pc' L (st'.map (va ρ)))) target → Steps p.tables e below (T.setTop (mkF m pc L (st.map (va ρ)))) target := by
  by_cases hsw : isSw i = true
  · cases i <;> first | exact absurd hsw Bool.false_ne_true | skip
    rename_i d lo hi offs
    simp only [qstep] at h
    split at h
    · rename_i x r
      split at h
      · rename_i e1
        split at h
        · rename_i e2; cases h; exact fun t q => X.tableswitchOut hx (g := mkF m pc L (.int x :: List.map (va ρ) _)) rfl rfl hd e1 e2 t q
        · cases h
      · rename_i e1
        split at h
        · rename_i o e2
          split at h
          · rename_i e3; cases h; exact fun t q => X.tableswitchIn hx (g := mkF m pc L (.int x :: List.map (va ρ) _)) rfl rfl hd e1 e2 e3 t q
          · cases h
        · cases h
    · cases h
  obtain rfl := hn.resolve_left hsw
  unfold qstep at h
  split at h
  -- constants
  · cases h; exact fun t q => XS.iconst X.here hx rfl hd q
  · cases h; exact fun t q => XS.bipush X.here hx rfl hd q
  · cases h; exact fun t q => XS.sipush X.here hx rfl hd q
  · cases h; exact fun t q => XT.lconst X.here hx rfl hd q
  -- ints
  · split at h
    · cases h; exact fun t q => XS.iadd X.here hx rfl hd rfl q
    · cases h
  · split at h
    · cases h; exact fun t q => XS.isub X.here hx rfl hd rfl q
    · cases h
  · split at h
    · cases h; exact fun t q => XS.imul X.here hx rfl hd rfl q
    · cases h
  · split at h
    · cases h; exact fun t q => XS.iand X.here hx rfl hd rfl q
    · cases h
  · split at h
    · cases h; exact fun t q => XT.ior X.here hx rfl hd rfl q
    · cases h
  · split at h
    · cases h; exact fun t q => XT.ixor X.here hx rfl hd rfl q
    · cases h
  · split at h
    · cases h; exact fun t q => XT.ishl X.here hx rfl hd rfl q
    · cases h
  · split at h
    · cases h; exact fun t q => XT.ishr X.here hx rfl hd rfl q
    · cases h
  · split at h
    · cases h; exact fun t q => XT.iushr X.here hx rfl hd rfl q
    · cases h
  · split at h
    · split at h
      · cases h
      · rename_i e1; cases h; exact fun t q => XS.idiv X.here hx rfl hd rfl e1 q
    · cases h
  · split at h
    · split at h
      · cases h
      · rename_i e1; cases h; exact fun t q => iremM X hx rfl hd rfl e1 q
    · cases h
  · split at h
    · cases h; exact fun t q => XS.ineg X.here hx rfl hd rfl q
    · cases h
  -- longs
  · split at h
    · cases h; exact fun t q => XT.ladd X.here hx rfl hd rfl q
    · cases h
  · split at h
    · cases h; exact fun t q => XT.lsub X.here hx rfl hd rfl q
    · cases h
  · split at h
    · cases h; exact fun t q => XT.lmul X.here hx rfl hd rfl q
    · cases h
  · split at h
    · cases h; exact fun t q => XT.land X.here hx rfl hd rfl q
    · cases h
  · split at h
    · cases h; exact fun t q => XT.lor X.here hx rfl hd rfl q
    · cases h
  · split at h
    · cases h; exact fun t q => XT.lxor X.here hx rfl hd rfl q
    · cases h
  · split at h
    · cases h; exact fun t q => XT.lshl X.here hx rfl hd rfl q
    · cases h
  · split at h
    · cases h; exact fun t q => XT.lshr X.here hx rfl hd rfl q
    · cases h
  · split at h
    · cases h; exact fun t q => XT.lushr X.here hx rfl hd rfl q
    · cases h
  · split at h
    · split at h
      · cases h
      · rename_i e1; cases h; exact fun t q => XT.ldiv X.here hx rfl hd rfl e1 q
    · cases h
  · split at h
    · cases h; exact fun t q => XT.lneg X.here hx rfl hd rfl q
    · cases h
  · split at h
    · cases h; exact fun t q => XT.lcmp X.here hx rfl hd rfl q
    · cases h
  · split at h
    · cases h; exact fun t q => XT.i2l X.here hx rfl hd rfl q
    · cases h
  · split at h
    · cases h; exact fun t q => XT.l2i X.here hx rfl hd rfl q
    · cases h
  -- dup, pop
  · split at h
    · cases h; exact fun t q => XS.dup X.here hx rfl hd rfl rfl q
    · cases h; exact fun t q => XS.dup X.here hx rfl hd rfl rfl q
    · cases h
  · split at h
    · cases h; exact fun t q => XT.pop X.here hx rfl hd rfl rfl q
    · cases h; exact fun t q => XT.pop X.here hx rfl hd rfl rfl q
    · cases h
  -- jumps
  · split at h
    · rename_i e1; cases h; exact fun t q => XS.goto X.here hx rfl rfl hd e1 rfl q
    · cases h
  · split at h
    · split at h
      · rename_i e1; cases h
        intro t q
        rw [br_eq] at q
        split at q
        · rename_i e2; exact XS.ifYes X.here hx rfl rfl hd rfl (by rw [if0]; exact e2) e1 rfl q
        · rename_i e2; exact XS.ifNo X.here hx rfl hd rfl (by rw [if0]; simpa using e2) q
      · cases h
    · cases h
  · split at h
    · split at h
      · rename_i e1; cases h
        intro t q
        rw [br_eq] at q
        split at q
        · rename_i e2; exact XS.icmpYes X.here hx rfl rfl hd rfl e2 e1 rfl q
        · rename_i e2; exact XS.icmpNo X.here hx rfl hd rfl (by simpa using e2) q
      · cases h
    · cases h
  · exact absurd rfl hsw
  · cases h
theorem pstep_sound (X : Stand p l e R s m args below meth c T locs cells slots) (hx : p.tables.exec = Jvm.exec) {ρ : Nat → Nat} {i : Instr} {n pc pc' : Nat} {ls ls' : Lv} {st st' : List Value}
    (h : pstep i pc ls st = some (pc', ls', st')) (hd : decode c.code pc = .ok (i, n)) (hn : isSw i = true ∨ n = ilen i) {L : Array Slot} (hL : LR ρ ls L) :
    ∃ L', LR ρ ls' L' ∧ L'.size = L.size ∧ ∀ target, Steps p.tables e below (T.setTop (mkF m pc' L' (st'.map (va ρ)))) target → Steps p.tables e below (T.setTop (mkF m pc L (st.map (va ρ)))) target := by
  by_cases hsw : isSw i = true
  · cases i <;> first | exact absurd hsw Bool.false_ne_true | skip
    simp only [pstep] at h
    split at h
    · rename_i e1; cases h; exact ⟨L, hL, rfl, qstep_sound X hx e1 hd hn⟩
    · cases h
  obtain rfl := hn.resolve_left hsw
  unfold pstep at h
  split at h
  -- loads
  · split at h
    · rename_i e1; cases h; exact ⟨L, hL, rfl, fun t q => XS.iloadN X.here hx rfl hd (hL.2.1 _ _ e1) q⟩
    · cases h
  · split at h
    · rename_i e1; cases h; exact ⟨L, hL, rfl, fun t q => XS.iload X.here hx rfl hd (hL.2.1 _ _ e1) q⟩
    · cases h
  · split at h
    · rename_i e1; cases h; exact ⟨L, hL, rfl, fun t q => XT.lloadN X.here hx rfl hd (hL.2.1 _ _ e1) q⟩
    · cases h
  · split at h
    · rename_i e1; cases h; exact ⟨L, hL, rfl, fun t q => XT.lload X.here hx rfl hd (hL.2.1 _ _ e1) q⟩
    · cases h
  · split at h
    · rename_i e1; cases h; exact ⟨L, hL, rfl, fun t q => XS.aloadN X.here hx rfl hd (hL.2.1 _ _ e1) rfl q⟩
    · cases h
  · split at h
    · rename_i e1; cases h; exact ⟨L, hL, rfl, fun t q => XS.aload X.here hx rfl hd (hL.2.1 _ _ e1) rfl q⟩
    · cases h
  -- stores
  · split at h
    · split at h
      · rename_i e1; cases h
        obtain ⟨L', a1, a2, a3⟩ := store_ok hL (fun x => by simp) e1
        exact ⟨L', a2, a3, fun t q => XS.istoreN X.here hx rfl hd rfl a1 q⟩
      · cases h
    · cases h
  · split at h
    · split at h
      · rename_i e1; cases h
        obtain ⟨L', a1, a2, a3⟩ := store_ok hL (fun x => by simp) e1
        exact ⟨L', a2, a3, fun t q => XS.istore X.here hx rfl hd rfl a1 q⟩
      · cases h
    · cases h
  · split at h
    · split at h
      · rename_i e1; cases h
        obtain ⟨L', a1, a2, a3⟩ := store_ok hL (fun x => by simp) e1
        exact ⟨L', a2, a3, fun t q => XT.lstoreN X.here hx rfl hd rfl a1 q⟩
      · cases h
    · cases h
  · split at h
    · split at h
      · rename_i e1; cases h
        obtain ⟨L', a1, a2, a3⟩ := store_ok hL (fun x => by simp) e1
        exact ⟨L', a2, a3, fun t q => XT.lstore X.here hx rfl hd rfl a1 q⟩
      · cases h
    · cases h
  · split at h
    · split at h
      · rename_i e1; cases h
        obtain ⟨L', a1, a2, a3⟩ := store_ok hL (fun x => by simp) e1
        exact ⟨L', a2, a3, fun t q => XS.astoreN X.here hx rfl hd rfl rfl a1 q⟩
      · cases h
    · cases h
  · split at h
    · split at h
      · rename_i e1; cases h
        obtain ⟨L', a1, a2, a3⟩ := store_ok hL (fun x => by simp) e1
        exact ⟨L', a2, a3, fun t q => XS.astore X.here hx rfl hd rfl rfl a1 q⟩
      · cases h
    · cases h
  · split at h
    · rename_i e0
      split at h
      · rename_i e1; cases h
        obtain ⟨L', a1, a2, a3⟩ := store_ok hL (fun x => by simp) e1
        exact ⟨L', a2, a3, fun t q => XS.iinc X.here hx rfl hd (hL.2.1 _ _ e0) a1 q⟩
      · cases h
    · cases h
  · rename_i hq
    split at h
    · rename_i e1; cases h; exact ⟨L, hL, rfl, qstep_sound X hx e1 hd hn⟩
    · cases h
end Pure
/-! the class's own machine -/
def nd : List Value → Bool
  | [] => true
  | .double _ :: _ => false
  | _ :: r => nd r
theorem nd_spec {as : List Value} (h : nd as = true) : ∀ v ∈ as, ∀ x, v ≠ .double x := by
  induction as with
  | nil => intro v hv; cases hv
  | cons w r ih =>
    intro v hv x e
    rcases List.mem_cons.mp hv with q | q
    · subst q; subst e; cases h
    · refine ih ?_ v q x e
      cases w <;> first | exact h | cases h
def layA : List Value → Lv
  | [] => []
  | .long x :: r => some (.long x) :: none :: layA r
  | v :: r => some v :: layA r
def lay (as : List Value) (n : Nat) : Lv := layA as ++ List.replicate (n - (layA as).length) none
def cats (st : List Value) : Nat := (st.map fun v => v.category).sum
def tyOf : Nat → FieldType
  | 0 => .int
  | 1 => .boolean
  | _ => .long
def atOf : Nat → ArrayType
  | 0 => .int
  | 1 => .boolean
  | _ => .long
def retOf : Nat → Option FieldType
  | 0 => none
  | 1 => some .int
  | 2 => some .boolean
  | _ => some .long
def zs (al : List (Nat × Nat)) (c : Nat) : Nat := ((al.take c).map (·.2)).sum
abbrev Rs := Option (Option Value × St)
def cret (me : Me) (st : List Value) (i : Instr) : Option (Option Value) :=
  match i with
  | .ireturn => match st with
    | [.int x] => if me.rt = 1 then some (some (.int x)) else if me.rt = 2 then some (some (.int (x &&& 1))) else none
    | _ => none
  | .lreturn => match st with
    | [.long x] => if me.rt = 3 then some (some (.long x)) else none
    | _ => none
  | .return_ => match st with
    | [] => if me.rt = 0 then some none else none
    | _ => none
  | _ => none
def isRet : Instr → Bool
  | .ireturn => true
  | .lreturn => true
  | .return_ => true
  | _ => false
def gfld (P : Cl) (x : Nat) (c : Nat) (s : St) : Option Value :=
  match asc P.fx x with
  | none => none
  | some k => match asc P.fs k with
    | none => none
    | some fe => match fe.2.2.1 with
      | 0 => some (.int (gI s 0 k))
      | 1 => some (.int (gI s 0 k))
      | 2 => some (.long (gL s 0 k))
      | j + 3 => if j < c then some (.ref (j + 1)) else none
def pfld (P : Cl) (x : Nat) (ini : Bool) (v : Value) (s : St) : Option St :=
  match asc P.fx x with
  | none => none
  | some k => match asc P.fs k with
    | none => none
    | some fe => if fe.2.2.2 = true ∧ ini = false then none else
      match fe.2.2.1, v with
      | 0, .int z => some (sI s 0 k z)
      | 1, .int z => some (sI s 0 k (z &&& 1))
      | 2, .long z => some (sL s 0 k z)
      | _, _ => none
def newF (P : Cl) (t : ArrayType) (cd : Cd) (pc c : Nat) (st : List Value) : Bool :=
  match st with
  | [.int n, .ref 0] => match fetch cd (pc + 2) with
    | some (.putfield x, 3) => match asc P.fx x with
      | some k => match asc P.fs k with
        | some fe => match P.al[c]? with
          | some (tt, N) => decide (fe.2.2.1 = c + 3 ∧ t = atOf tt ∧ 0 ≤ n.toInt ∧ n.toInt = N ∧ N < 1000000)
          | none => false
        | none => false
      | none => false
    | _ => false
  | _ => false
def lda (P : Cl) (tt c : Nat) (st : List Value) (s : St) : Option (List Value) :=
  match st with
  | .int i :: .ref (a + 1) :: r => match P.al[a]? with
    | some (t2, N) => if t2 = tt ∧ a < c then (if inb N i then some ((if tt = 2 then .long (gL s (a + 1) (ix i)) else .int (gI s (a + 1) (ix i))) :: r) else none) else none
    | none => none
  | _ => none
def sta (P : Cl) (tt c : Nat) (st : List Value) (s : St) : Option (List Value × St) :=
  match st with
  | v :: .int i :: .ref (a + 1) :: r => match P.al[a]? with
    | some (t2, N) => if t2 = tt ∧ a < c then (if inb N i then (match tt, v with
        | 0, .int z => some (r, sI s (a + 1) (ix i) z)
        | 1, .int z => some (r, sI s (a + 1) (ix i) (z &&& 1))
        | 2, .long z => some (r, sL s (a + 1) (ix i) z)
        | _, _ => none) else none) else none
    | none => none
  | _ => none
def cstep {α : Type} (P : Cl) (mi : Nat) (me : Me) (rt : Option Value → St → Option α) (cl : Nat → Nat → List Value → St → Rs) (k : Nat → Nat → Lv → List Value → St → Option α) (i : Instr) (c pc : Nat) (ls : Lv) (st : List Value) (s : St) : Option α :=
  match i with
  | .getfield x => match st with
    | .ref 0 :: r => (match gfld P x c s with | some v => k c (pc + 3) ls (v :: r) s | none => none)
    | _ => none
  | .putfield x => match st with
    | v :: .ref 0 :: r => (match pfld P x (mi == 0) v s with | some s' => k c (pc + 3) ls r s' | none => none)
    | _ => none
  | .iaload => match lda P 0 c st s with | some st' => k c (pc + 1) ls st' s | none => none
  | .baload => match lda P 1 c st s with | some st' => k c (pc + 1) ls st' s | none => none
  | .laload => match lda P 2 c st s with | some st' => k c (pc + 1) ls st' s | none => none
  | .iastore => match sta P 0 c st s with | some (st', s') => k c (pc + 1) ls st' s' | none => none
  | .bastore => match sta P 1 c st s with | some (st', s') => k c (pc + 1) ls st' s' | none => none
  | .lastore => match sta P 2 c st s with | some (st', s') => k c (pc + 1) ls st' s' | none => none
  | .newarray t => if mi = 0 ∧ newF P t me.cd pc c st = true then k (c + 1) (pc + 5) ls [] s else none
  | .ldc x => match asc P.kx x with | some (.int z) => k c (pc + 2) ls (.int z :: st) s | _ => none
  | .ldc2_w x => match asc P.kx x with | some (.long z) => k c (pc + 3) ls (.long z :: st) s | _ => none
  | .invokespecial x => match st with
    | .ref 0 :: r => if x = P.oi ∧ 1 ≤ me.rf ∧ cats r + 12 ≤ me.rl then k c (pc + 3) ls r s else none
    | _ => none
  | .invokevirtual x => match asc P.mx x with
    | none => none
    | some m' => match asc P.ms m' with
      | none => none
      | some me' => match st.drop me'.na with
        | .ref 0 :: r => if m' ≠ 0 ∧ me'.rf + 1 ≤ me.rf ∧ cats r + (me'.ml + 11) + me'.rl ≤ me.rl ∧ nd (st.take me'.na) = true then
            (match cl m' c (.ref 0 :: (st.take me'.na).reverse) s with
             | some (none, s') => k c (pc + 3) ls r s'
             | some (some v, s') => k c (pc + 3) ls (v :: r) s'
             | none => none) else none
        | _ => none
  | i => if isRet i = true then (if mi = 0 ∧ c ≠ P.al.length then none else match cret me st i with | some v => rt v s | none => none)
    else match pstep i pc ls st with | some (pc', ls', st') => k c pc' ls' st' s | none => none
def cexec (P : Cl) : Nat → Nat → Me → Nat → Nat → Lv → List Value → St → Rs
  | 0, _, _, _, _, _, _, _ => none
  | f + 1, mi, me, c, pc, ls, st, s => match fetch me.cd pc with
    | none => none
    | some (i, _) => cstep P mi me (fun v s => some (v, s)) (fun m' c as s => match asc P.ms m' with | some me' => (if (layA as).length ≤ me'.ml then cexec P f m' me' c 0 (lay as me'.ml) [] s else none) | none => none) (cexec P f mi me) i c pc ls st s
def ccall (P : Cl) (f m' c : Nat) (as : List Value) (s : St) : Rs := match asc P.ms m' with | some me' => (if (layA as).length ≤ me'.ml then cexec P f m' me' c 0 (lay as me'.ml) [] s else none) | none => none
end Jvm.LM

namespace Jvm.LM
open Sem ClassFile Op Lib Jvm.Stand Jvm.Free Jvm.LawKit Jvm.RoadKit
/-! how the machine's state stands in the heap -/
theorem adr_ne (a j : Nat) : a + (j + 1) ≠ a := by omega
theorem adr_ne' (a j : Nat) : a ≠ a + (j + 1) := by omega
theorem adr_ne2 (a : Nat) {j k : Nat} (h : j ≠ k) : a + (j + 1) ≠ a + (k + 1) := by omega
def Fval (adr c : Nat) (s : St) (k : Nat) (fe : Fe) : Value :=
  match fe.2.2.1 with
  | 0 => .int (gI s 0 k)
  | 1 => .int (gI s 0 k)
  | 2 => .long (gL s 0 k)
  | j + 3 => if j < c then .ref (adr + (j + 1)) else .null
def elv (tt : Nat) (s : St) (j i : Nat) : Value := if tt = 2 then .long (gL s j i) else .int (gI s j i)
def ARep (Z : State) (h : Heap) (a tt N : Nat) (s : St) (j : Nat) : Prop :=
  ∃ cl : Cell, Arr Z h a cl (tyOf tt) ∧ cl.slots.size = N ∧ ∀ i, i < N → cl.slots[i]? = some (elv tt s j i)
def HRep (P : Cl) (Z : State) (h : Heap) (adr c : Nat) (s : St) : Prop :=
  Exa Z h adr P.nm ∧ (∀ k fe, asc P.fs k = some fe → Fld Z h adr P.nm fe.1 fe.2.1 (Fval adr c s k fe)) ∧
  (∀ (j tt N : Nat), P.al[j]? = some (tt, N) → j < c → ARep Z h (adr + (j + 1)) tt N s (j + 1)) ∧
  (∀ j i, c < j → gI s j i = 0 ∧ gL s j i = 0) ∧ c ≤ P.al.length
def fkTy (P : Cl) : Nat → FieldType
  | 0 => .int
  | 1 => .boolean
  | 2 => .long
  | j + 3 => .array (tyOf ((P.al[j]?.map (·.1)).getD 0))
def yOf (P : Cl) (me : Me) : MethodName := ⟨P.nm, me.nm, me.ds⟩
def LinkC (P : Cl) (Z : State) (a0 : Array Value) : Prop :=
  ((∃ nF, (Cond.instantiable P.nm nF).before a0 Z = true) ∧ (Cond.initialized P.nm).before a0 Z = true) ∧
  (∀ x k, asc P.fx x = some k → ∀ fe, asc P.fs k = some fe → (Cond.fieldLink P.nm x P.nm fe.1 fe.2.1).before a0 Z = true) ∧
  (∀ k fe, asc P.fs k = some fe → (if fe.2.2.2 = true then Cond.laysFinal P.nm P.nm fe.1 fe.2.1 else Cond.lays P.nm P.nm fe.1 fe.2.1).before a0 Z = true) ∧
  (∀ k fe, asc P.fs k = some fe → parseFieldDescriptor fe.2.1 = some (fkTy P fe.2.2.1)) ∧
  (∀ k k' fe fe', asc P.fs k = some fe → asc P.fs k' = some fe' → k ≠ k' → fe.1 ≠ fe'.1 ∧ (3 ≤ fe.2.2.1 → fe.2.2.1 ≠ fe'.2.2.1)) ∧
  (∀ (j tt N : Nat), P.al[j]? = some (tt, N) → tt ≤ 2 ∧ (Cond.arrayClass (tyOf tt)).before a0 Z = true) ∧
  (∀ x v, asc P.kx x = some v → match v with
    | .int z => (Cond.constant P.nm x z).before a0 Z = true
    | .long z => (Cond.constantLong P.nm x z).before a0 Z = true
    | _ => True) ∧
  ((Cond.methodLink P.nm P.oi Lib.objectInit).before a0 Z = true ∧ (Cond.instanceMethod Lib.objectInit).before a0 Z = true ∧ (Cond.code Lib.objectInit ⟨#[0xb1]⟩ 1 none).before a0 Z = true) ∧
  (∀ mi me, asc P.ms mi = some me → ∃ (bytes : ByteArray) (ps : List FieldType), (Cond.code (yOf P me) bytes me.ml (retOf me.rt)).before a0 Z = true ∧
    (∀ pc i n, fetch me.cd pc = some (i, n) → decode bytes pc = .ok (i, n) ∧ (isSw i = true ∨ n = ilen i)) ∧ parseMethodDescriptor me.ds = some ⟨ps, retOf me.rt⟩ ∧ ps.length = me.na) ∧
  (∀ x mi, asc P.mx x = some mi → ∀ me, asc P.ms mi = some me → (Cond.methodLink P.nm x (yOf P me)).before a0 Z = true ∧ (Cond.instanceMethod (yOf P me)).before a0 Z = true ∧
    ((Cond.privateMethod (yOf P me)).before a0 Z = true ∨ ((Cond.declares (yOf P me)).before a0 Z = true ∧ (Cond.selects P.nm (yOf P me) (yOf P me)).before a0 Z = true))) ∧
  plainName P.nm = true ∧ (P.nm ≠ "java/lang/invoke/MethodHandle" ∧ P.nm ≠ "java/lang/invoke/VarHandle") ∧ (∀ me, asc P.ms 0 = some me → me.nm = "<init>")
theorem gI_sI (s : St) (c j : Nat) (v : Int32) (a b : Nat) : gI (sI s c j v) a b = if a = c ∧ b = j then v else gI s a b := rfl
theorem gL_sI (s : St) (c j : Nat) (v : Int32) (a b : Nat) : gL (sI s c j v) a b = gL s a b := rfl
theorem gI_sL (s : St) (c j : Nat) (v : Int64) (a b : Nat) : gI (sL s c j v) a b = gI s a b := rfl
theorem gL_sL (s : St) (c j : Nat) (v : Int64) (a b : Nat) : gL (sL s c j v) a b = if a = c ∧ b = j then v else gL s a b := rfl
theorem laid_of {P : Cl} {Z : State} {a0 : Array Value} (LK : LinkC P Z a0) {k : Nat} {fe : Fe} (hk : asc P.fs k = some fe) : Laid Z a0 P.nm P.nm fe.1 fe.2.1 := by
  have q := LK.2.2.1 k fe hk
  split at q
  · exact Or.inr q
  · exact Or.inl q
/-- a heap that is alike where the object lies -/
theorem HRep.congr {P : Cl} {Z : State} {h h' : Heap} {adr c : Nat} {s : St} (H : HRep P Z h adr c s) (e : ∀ x, adr ≤ x → x < adr + 1 + P.al.length → h'[x]? = h[x]?) : HRep P Z h' adr c s := by
  obtain ⟨h1, h2, h3, h4, h5⟩ := H
  have ea : h'[adr]? = h[adr]? := e adr (Nat.le_refl _) (by omega)
  refine ⟨?_, fun k fe hk => ?_, fun j tt N hj hc => ?_, h4, h5⟩
  · obtain ⟨cell, k, q1, r⟩ := h1; exact ⟨cell, k, by rw [ea]; exact q1, r⟩
  · obtain ⟨cell, cf, k, i, f, q1, r⟩ := h2 k fe hk; exact ⟨cell, cf, k, i, f, by rw [ea]; exact q1, r⟩
  · obtain ⟨cl, ⟨q1, q2⟩, q3⟩ := h3 j tt N hj hc
    exact ⟨cl, ⟨by rw [e _ (by omega) (by omega)]; exact q1, q2⟩, q3⟩
theorem HRep.putFld {P : Cl} {Z : State} {a0 : Array Value} (LK : LinkC P Z a0) {h h' : Heap} {adr c k : Nat} {fe : Fe} {s s' : St} {v : Value} (H : HRep P Z h adr c s) (hk : asc P.fs k = some fe)
    (W : Wr h h' adr (RoadKit.slotOf Z P.nm fe.1 fe.2.1) v) (hv : v = Fval adr c s' k fe) (hI : ∀ a b, (a ≠ 0 ∨ b ≠ k) → gI s' a b = gI s a b ∧ gL s' a b = gL s a b) : HRep P Z h' adr c s' := by
  obtain ⟨h1, h2, h3, h4, h5⟩ := H
  refine ⟨h1.wr W, fun k2 fe2 hk2 => ?_, fun j tt N hj hc => ?_, fun j i hj => ?_, h5⟩
  · by_cases e : k2 = k
    · subst e; cases hk.symm.trans hk2
      rw [← hv]; exact (h2 _ _ hk).same W
    · have hne := (LK.2.2.2.2.1 _ _ _ _ hk2 hk e).1
      have q := (h2 _ _ hk2).other W (Or.inr (slot_ne (laid_of LK hk2) (laid_of LK hk) hne (LK.2.2.2.1 _ _ hk2) (LK.2.2.2.1 _ _ hk)))
      have e2 : Fval adr c s' k2 fe2 = Fval adr c s k2 fe2 := by
        have := hI 0 k2 (Or.inr e)
        simp only [Fval]; split <;> simp [this.1, this.2]
      rw [e2]; exact q
  · obtain ⟨cl, q1, q2, q3⟩ := h3 j tt N hj hc
    refine ⟨cl, q1.other W (adr_ne _ _), q2, fun i hi => ?_⟩
    have := hI (j + 1) i (Or.inl (by omega))
    rw [q3 i hi]; simp only [elv, this.1, this.2]
  · have := hI j i (Or.inl (by omega))
    rw [this.1, this.2]; exact h4 j i hj
theorem HRep.putArr {P : Cl} {Z : State} {h h' : Heap} {adr c a tt N n : Nat} {s s' : St} {v : Value} (H : HRep P Z h adr c s) (ha : P.al[a]? = some (tt, N)) (hac : a < c) (hn : n < N)
    (W : Wr h h' (adr + (a + 1)) n v) (hv : v = elv tt s' (a + 1) n) (hI : ∀ x y, (x ≠ a + 1 ∨ y ≠ n) → gI s' x y = gI s x y ∧ gL s' x y = gL s x y) : HRep P Z h' adr c s' := by
  obtain ⟨h1, h2, h3, h4, h5⟩ := H
  refine ⟨h1.wr W, fun k fe hk => ?_, fun j tt2 N2 hj hc => ?_, fun j i hj => ?_, h5⟩
  · have q := (h2 _ _ hk).other W (Or.inl (adr_ne' _ _))
    have e2 : Fval adr c s' k fe = Fval adr c s k fe := by
      have := hI 0 k (Or.inl (by omega))
      simp only [Fval]; split <;> simp [this.1, this.2]
    rw [e2]; exact q
  · obtain ⟨cl, q1, q2, q3⟩ := h3 j tt2 N2 hj hc
    by_cases e : j = a
    · subst e; cases ha.symm.trans hj
      refine ⟨cl.setSlot n v, q1.same W, by rw [sz_set]; exact q2, fun i hi => ?_⟩
      by_cases ei : i = n
      · subst ei; rw [← hv]; simp [Cell.setSlot, q2, hi]
      · have := hI (j + 1) i (Or.inr ei)
        have q4 := q3 i hi
        simp only [elv, this.1, this.2] at q4 ⊢
        simp only [Cell.setSlot]
        rw [Array.getElem?_setIfInBounds_ne (fun q => ei q.symm)]; exact q4
    · refine ⟨cl, q1.other W (adr_ne2 _ e), q2, fun i hi => ?_⟩
      have := hI (j + 1) i (Or.inl (by omega))
      rw [q3 i hi]; simp only [elv, this.1, this.2]
  · have := hI j i (Or.inl (by omega))
    rw [this.1, this.2]; exact h4 j i hj
theorem HRep.newArr {P : Cl} {Z : State} {a0 : Array Value} (LK : LinkC P Z a0) {h h1 h2 : Heap} {adr c k tt N : Nat} {fe : Fe} {s : St} {n : Int32} {cA : ClassId} (H : HRep P Z h adr c s) (hk : asc P.fs k = some fe) (hkd : fe.2.2.1 = c + 3)
    (ha : P.al[c]? = some (tt, N)) (hn0 : 0 ≤ n.toInt) (hn : n.toInt = N) (hsz : h.size = adr + 1 + c) (E : Ext h h1) (A : Arr Z h1 h.size (newA cA (tyOf tt) n) (tyOf tt)) (W : Wr h1 h2 adr (RoadKit.slotOf Z P.nm fe.1 fe.2.1) (.ref h.size)) : HRep P Z h2 adr (c + 1) s := by
  obtain ⟨g1, g2, g3, g4, g5⟩ := H
  have hc : c < P.al.length := (List.getElem?_eq_some_iff.mp ha).1
  have hNn : n.toNatClampNeg = N := by simp only [Int32.toNatClampNeg]; omega
  have htt := (LK.2.2.2.2.2.1 _ _ _ ha).1
  refine ⟨(g1.ext E).wr W, fun k2 fe2 hk2 => ?_, fun j tt2 N2 hj hjc => ?_, fun j i hj => g4 j i (by omega), hc⟩
  · by_cases e : k2 = k
    · subst e; cases hk.symm.trans hk2
      have q := ((g2 _ _ hk).ext E).same W
      have e2 : Fval adr (c + 1) s k2 fe = .ref h.size := by simp only [Fval, hkd]; rw [if_pos (Nat.lt_succ_self c), hsz]; exact congrArg Value.ref (show adr + (c + 1) = adr + 1 + c by omega)
      rw [e2]; exact q
    · have hne := LK.2.2.2.2.1 _ _ _ _ hk2 hk e
      have q := ((g2 _ _ hk2).ext E).other W (Or.inr (slot_ne (laid_of LK hk2) (laid_of LK hk) hne.1 (LK.2.2.2.1 _ _ hk2) (LK.2.2.2.1 _ _ hk)))
      have e2 : Fval adr (c + 1) s k2 fe2 = Fval adr c s k2 fe2 := by
        simp only [Fval]; split
        · rfl
        · rfl
        · rfl
        · rename_i j hj
          have : j ≠ c := fun q => (hne.2 (by rw [hj]; omega)) (by rw [hj, hkd, q])
          by_cases b : j < c
          · rw [if_pos b, if_pos (by omega)]
          · rw [if_neg b, if_neg (by omega)]
      rw [e2]; exact q
  · by_cases e : j = c
    · subst e; cases ha.symm.trans hj
      have hA : Arr Z h2 h.size (newA cA (tyOf tt) n) (tyOf tt) := A.other W (show h.size ≠ adr by omega)
      refine ⟨newA cA (tyOf tt) n, by rw [show adr + (j + 1) = h.size by omega]; exact hA, by rw [sz_new]; exact hNn, fun i hi => ?_⟩
      have z := g4 (j + 1) i (by omega)
      simp only [newA, hNn, elv, z.1, z.2]
      rw [Array.getElem?_replicate, if_pos hi]
      have : tt = 0 ∨ tt = 1 ∨ tt = 2 := by omega
      rcases this with rfl | rfl | rfl <;> rfl
    · obtain ⟨cl, q1, q2, q3⟩ := g3 j tt2 N2 hj (by omega)
      exact ⟨cl, (q1.ext E).other W (adr_ne _ _), q2, q3⟩
/-- outside the object nothing moves -/
def Kp (h0 h : Heap) (adr n : Nat) : Prop := ∀ x, (x < adr ∨ adr + 1 + n ≤ x) → h[x]? = h0[x]?
theorem Kp.wr {h0 h h' : Heap} {adr n a sl : Nat} {v : Value} (K : Kp h0 h adr n) (W : Wr h h' a sl v) (h1 : adr ≤ a) (h2 : a < adr + 1 + n) : Kp h0 h' adr n := fun x hx => by
  obtain ⟨cell, q1, q2, q3, rfl⟩ := W
  rw [Array.getElem?_setIfInBounds_ne (by omega)]; exact K x hx
theorem Kp.ext {h0 h h' : Heap} {adr n : Nat} (K : Kp h0 h adr n) (E : Ext h h') (h1 : h'.size ≤ adr + 1 + n) (h2 : adr ≤ h.size) : Kp h0 h' adr n := fun x hx => by
  rw [← K x hx]
  by_cases b : x < h.size
  · obtain ⟨c, hc⟩ : ∃ c, h[x]? = some c := ⟨h[x], Array.getElem?_eq_getElem b⟩
    rw [hc]; exact E.2 _ _ hc
  · rw [Array.getElem?_eq_none (by omega), Array.getElem?_eq_none (by omega)]
theorem Kp.trans {h0 h h' : Heap} {adr n : Nat} (K : Kp h0 h adr n) (K' : Kp h h' adr n) : Kp h0 h' adr n := fun x hx => (K' x hx).trans (K x hx)
def cRoom (P : Cl) (mi : Nat) (me : Me) : Room := { frames := me.rf, cells := if mi = 0 then P.al.length else 0, slots := if mi = 0 then zs P.al P.al.length else 0, locals := me.rl }
def QC (P : Cl) (Z : State) (n0 adr mi c : Nat) (w : Option Value) (s' : St) (h0 : Heap) (v : Option Value) (h : Heap) (L : List Loc) : Prop :=
  (v = w ∧ ∀ ρ, v.toList.map (va ρ) = v.toList) ∧ Fr n0 L ∧ HRep P Z h adr (if mi = 0 then P.al.length else c) s' ∧ Kp h0 h adr P.al.length ∧ h.size = (if mi = 0 then adr + 1 + P.al.length else h0.size)
/-- the run from S ends, and so -/
def Don (p : Program) (e : Env) (below : List Frame) (s₀ : State) (rm : Room) (Q : Option Value → Heap → List Loc → Prop) (S : State) : Prop :=
  ∃ s₂ o, Steps p.tables e below S s₂ ∧ s₂.status = .running ∧ Ended s₂ below o ∧ ∃ v L, o = .returned v ∧ Q v s₂.heap L ∧ FrameEnd s₀ o s₂ L rm.cells rm.slots
theorem Don.step {p : Program} {e : Env} {below : List Frame} {s₀ : State} {rm : Room} {Q : Option Value → Heap → List Loc → Prop} {S S' : State} (h : ∀ t, Steps p.tables e below S' t → Steps p.tables e below S t) (D : Don p e below s₀ rm Q S') : Don p e below s₀ rm Q S := by
  obtain ⟨s₂, o, h1, h2⟩ := D; exact ⟨s₂, o, h _ h1, h2⟩
def Inv (P : Cl) (Z : State) (n0 adr mi c : Nat) (s : St) (h0 h : Heap) (locs : List Loc) : Prop :=
  HRep P Z h adr c s ∧ Fr n0 locs ∧ Kp h0 h adr P.al.length ∧ h.size = (if mi = 0 then adr + 1 + c else h0.size)
def co (mi c : Nat) : Nat := if mi = 0 then c else 0
def zo (P : Cl) (mi c : Nat) : Nat := if mi = 0 then zs P.al c else 0
/-- what the walk of a body is to show, at a given fuel -/
def CW (P : Cl) (Z : State) (n0 adr f mi : Nat) (me : Me) : Prop :=
  ∀ (p : Program) (l : Launch) (e : Env) (s₀ : State) (m : MethodId) (args : Array Value) (below : List Frame) (meth : Method) (cd : Code) (T : State) (locs : List Loc) (h0 : Heap) (c pc : Nat) (ls : Lv) (st : List Value) (s : St) (v : Option Value) (s' : St) (L : Array Slot),
    p.tables.exec = Jvm.exec → Z.Warmed39 s₀.vm → s₀.vm.findClass P.nm = some m.cls → meth.name = me.nm → meth.sig.returnType = retOf me.rt → cd.maxLocals = me.ml → meth.locks = false → (mi = 0 → s₀.heap.size = adr + 1) →
    (∀ pc i n, fetch me.cd pc = some (i, n) → decode cd.code pc = .ok (i, n) ∧ (isSw i = true ∨ n = ilen i)) →
    cexec P f mi me c pc ls st s = some (v, s') →
    Stand p l e (cRoom P mi me) s₀ m args below meth cd T locs (co mi c) (zo P mi c) →
    Inv P Z n0 adr mi c s h0 T.heap locs → LR (adr + ·) ls L → ls.length = me.ml →
    Don p e below s₀ (cRoom P mi me) (QC P Z n0 adr mi c v s' h0) (T.setTop (mkF m pc L (st.map (va (adr + ·)))))
theorem zs_mono (al : List (Nat × Nat)) {a b : Nat} (h : a ≤ b) : zs al a ≤ zs al b := by
  obtain ⟨d, rfl⟩ := Nat.le.dest h
  simp only [zs]
  rw [List.take_add, List.map_append, List.sum_append]; omega
theorem zs_succ (al : List (Nat × Nat)) {c tt N : Nat} (h : al[c]? = some (tt, N)) : zs al (c + 1) = zs al c + N := by
  simp only [zs, List.take_add_one, h]; simp
theorem zs_le (al : List (Nat × Nat)) (a : Nat) : zs al a ≤ zs al al.length := by
  by_cases h : a ≤ al.length
  · exact zs_mono al h
  · simp only [zs]; rw [List.take_of_length_le (by omega), List.take_of_length_le (Nat.le_refl _)]
    exact Nat.le_refl _
theorem narrow_I (z : Int32) : narrow .int (.int z) = .int z := rfl
theorem inb_not {n : Nat} {i : Int32} (h : inb n i) : ¬ (i < 0 ∨ n ≤ i.toNatClampNeg) := by
  intro q
  simp only [Int32.lt_iff_toInt_lt, Int32.toNatClampNeg, Int32.reduceToInt] at q
  have := h.1; have := h.2
  omega
theorem inb_ix {n : Nat} {i : Int32} (h : inb n i) : ix i < n := by
  have := h.1; have := h.2
  simp only [ix, Int32.toNatClampNeg]; omega
end Jvm.LM

namespace Jvm.LM
open Sem ClassFile Op Lib Jvm.Stand Jvm.Free Jvm.LawKit Jvm.RoadKit
/-! entering a method -/
def slA : List Value → List Slot
  | [] => []
  | v :: r => if v.category = 2 then .val v :: .second :: slA r else .val v :: slA r
theorem foldl_slA (as : List Value) (acc : Array Slot) : as.foldl (fun acc v => if v.category = 2 then (acc.push (.val v)).push .second else acc.push (.val v)) acc = acc ++ (slA as).toArray := by
  induction as generalizing acc with
  | nil => simp [slA]
  | cons v r ih =>
    rw [List.foldl_cons, ih]
    simp only [slA]
    split <;> simp
theorem al_eq (args : Array Value) (n : Nat) : argsToLocals args n = (let filled := args.foldl (init := #[]) fun acc v => if v.category = 2 then (acc.push (.val v)).push .second else acc.push (.val v); filled ++ Array.replicate (n - filled.size) .unset) := rfl
theorem atl_eq (as : List Value) (n : Nat) : argsToLocals as.toArray n = (slA as ++ List.replicate (n - (slA as).length) Slot.unset).toArray := by
  rw [al_eq]
  have : Array.foldl (fun acc v => if v.category = 2 then (acc.push (Slot.val v)).push .second else acc.push (.val v)) #[] as.toArray = (slA as).toArray := by
    rw [List.foldl_toArray, foldl_slA]; simp
  simp only [this]
  simp
theorem wfl_one {x : Slot} {l : List Slot} (h : WFf (fun k => l[k]?)) (hx : x ≠ .second) (hc : ∀ v, x = .val v → v.category ≠ 2) : WFf (fun k => (x :: l)[k]?) := by
  obtain ⟨h1, h2, h3⟩ := h
  refine ⟨fun k v hk hv => ?_, fun k hk => ?_, ?_⟩
  · cases k with
    | zero => simp at hk; exact absurd hv (hc v hk)
    | succ k => simp at hk ⊢; exact h1 k v hk hv
  · cases k with
    | zero => simp at hk; exact absurd (by simpa using hk) h3
    | succ k => simp at hk ⊢; exact h2 k (by simpa using hk)
  · simpa using hx
theorem wfl_two {v : Value} {l : List Slot} (h : WFf (fun k => l[k]?)) (hc : v.category = 2) : WFf (fun k => (Slot.val v :: .second :: l)[k]?) := by
  obtain ⟨h1, h2, h3⟩ := h
  refine ⟨fun k w hk hv => ?_, fun k hk => ?_, by simp⟩
  · match k with
    | 0 => simp
    | 1 => simp at hk
    | k + 2 => simp at hk ⊢; exact h1 k w hk hv
  · match k with
    | 0 => exact ⟨v, by simp, hc⟩
    | 1 => exact absurd (by simpa using hk) h3
    | k + 2 => simp at hk ⊢; exact h2 k (by simpa using hk)
theorem wfl_rep (n : Nat) : WFf (fun k => (List.replicate n Slot.unset)[k]?) := by
  refine ⟨fun k v hk _ => ?_, fun k hk => ?_, ?_⟩
  · simp [List.getElem?_replicate] at hk
  · simp [List.getElem?_replicate] at hk
  · simp [List.getElem?_replicate]
theorem wfl_slA (as : List Value) (r : List Slot) (h : WFf (fun k => r[k]?)) : WFf (fun k => (slA as ++ r)[k]?) := by
  induction as with
  | nil => simpa [slA] using h
  | cons v t ih =>
    simp only [slA]
    split
    · rename_i hc; exact wfl_two ih hc
    · rename_i hc; exact wfl_one ih (by simp) (fun w hw => by cases hw; exact hc)
theorem slA_len (ρ : Nat → Nat) (as : List Value) (hd : ∀ v ∈ as, ∀ x, v ≠ .double x) : (slA (as.map (va ρ))).length = (layA as).length := by
  induction as with
  | nil => rfl
  | cons v t ih =>
    have ih := ih fun w hw => hd w (List.mem_cons_of_mem _ hw)
    cases v <;> simp [slA, layA, va, Value.category, ih]
    exact absurd rfl (hd _ (List.mem_cons_self ..) _)
theorem layA_get {ρ : Nat → Nat} {as : List Value} (hd : ∀ v ∈ as, ∀ x, v ≠ .double x) {k : Nat} {w : Value} (h : (layA as)[k]? = some (some w)) : (slA (as.map (va ρ)))[k]? = some (.val (va ρ w)) := by
  induction as generalizing k with
  | nil => simp [layA] at h
  | cons v t ih =>
    have ih' := fun {k} => ih (k := k) fun w hw => hd w (List.mem_cons_of_mem _ hw)
    cases v
    case long x =>
      simp only [layA] at h
      match k with
      | 0 => simp at h; subst h; simp [slA, va, Value.category]
      | 1 => simp at h
      | k + 2 => simp at h; simpa [slA, va, Value.category] using ih' h
    case double x => exact absurd rfl (hd _ (List.mem_cons_self ..) _)
    all_goals
      simp only [layA] at h
      match k with
      | 0 => simp at h; subst h; simp [slA, va, Value.category]
      | k + 1 => simp at h; simpa [slA, va, Value.category] using ih' h
theorem lay_LR {ρ : Nat → Nat} {as : List Value} (hd : ∀ v ∈ as, ∀ x, v ≠ .double x) {n : Nat} (hn : (layA as).length ≤ n) : LR ρ (lay as n) (argsToLocals (as.map (va ρ)).toArray n) := by
  rw [atl_eq]
  have hl := slA_len ρ as hd
  refine ⟨by simp [lay, hl], fun k w hk => ?_, ?_⟩
  · simp only [lay] at hk
    rw [List.getElem?_append] at hk
    split at hk
    · have := layA_get (ρ := ρ) hd hk
      rw [List.getElem?_toArray, List.getElem?_append_left (by omega)]; exact this
    · simp [List.getElem?_replicate] at hk
  · have := wfl_slA (as.map (va ρ)) (List.replicate (n - (slA (as.map (va ρ))).length) Slot.unset) (wfl_rep _)
    have q : WFf (fun k => ((slA (as.map (va ρ)) ++ List.replicate (n - (slA (as.map (va ρ))).length) Slot.unset).toArray)[k]?) := by
      simpa using this
    exact q
theorem lay_len {as : List Value} {n : Nat} (hn : (layA as).length ≤ n) : (lay as n).length = n := by simp [lay]; omega
section Call
variable {p : Program} {l : Launch} {e : Env} {R : Room} {s : State} {m : MethodId} {args : Array Value} {below : List Frame} {meth : Method} {c : Code} {T : State} {locs : List Loc} {cells slots : Nat}
/-- a private method of a class that is no interface -/
theorem privCall (X : Stand p l e R s m args below meth c T locs cells slots) (hexec : p.tables.exec = Jvm.exec) {own : String} {index : Nat} {y : MethodName} {bytes : ByteArray} {maxL nF : Nat} {ret : Option FieldType}
    (hown : s.vm.findClass own = some m.cls) (hlink : (Cond.methodLink own index y).before args s = true) (hinst : (Cond.instanceMethod y).before args s = true) (hi : (Cond.instantiable y.cls nF).before args s = true)
    (hpriv : s.PrivateAt y) (hcode : (Cond.code y bytes maxL ret).before args s = true) (hy : y.cls ≠ "java/lang/invoke/MethodHandle" ∧ y.cls ≠ "java/lang/invoke/VarHandle")
    {W : Nat} {Pre : Free.Pt → Array Value → Prop} {Post : Free.Pt → Array Value → Option Value → Free.Pt → Prop} (hK : Free.Back l R p e below s args y 3 W Pre Post)
    {g : JFrame} (hg : g.method = m) (hsize : g.locals.size = c.maxLocals) {a : Addr} {cell : Cell} (hcell : T.heap[a]? = some cell) (hobj : ∀ q, cell.vm ≠ .statics q)
    {argsL rest : List Value} (hlen : ∀ sig, parseMethodDescriptor y.desc = some sig → argsL.length = sig.parameters.length)
    (hstack : g.stack = argsL.reverse ++ .ref a :: rest) (hW : 2 * g.monitorRoom + (rest.map fun v => v.category).sum ≤ W) (hdg : decode c.code g.pc = .ok (.invokevirtual index, 3))
    (hpre : ∀ vm₁, s.WarmedH vm₁ → Pre ⟨T.setVm vm₁, locs, cells, slots⟩ (.ref a :: argsL).toArray) :
    ∃ (v : Option Value) (vm₁ : Vm) (B : Free.Pt), s.WarmedH vm₁ ∧ Stand p l e R s m args below meth c B.U B.locs B.cells B.slots ∧ Post ⟨T.setVm vm₁, locs, cells, slots⟩ (.ref a :: argsL).toArray v B ∧
      Steps p.tables e below (T.setTop g) (B.U.setTop { g with pc := g.pc + 3, stack := v.toList ++ rest }) := by
  obtain ⟨mk, mM, hnamed, hmM, hst, hab⟩ := Cond.instanceMethod_spec hinst
  obtain ⟨mM', cM, hmM', -, -, -, -, -, -, hsig⟩ := Cond.code_spec hnamed hcode
  cases hmM.symm.trans hmM'
  obtain ⟨cc, kk, i1, i2, -, i4, -⟩ := Cond.instantiable_spec hi
  cases (findClass_of_methodNamed hnamed).symm.trans i1
  have hni : kk.isInterface = false := by
    cases q : kk.isInterface
    · rfl
    · rw [q] at i4; simp at i4
  have hsel : selectMethod e.platform s.vm cell.cls mk = .method mk := selectMethod_private hmM (hpriv mk mM hnamed hmM)
  obtain ⟨vm₁, X₁, hstep⟩ := X.invokevirtual hexec hown hlink hnamed hmM hst i2 hni hy hcell hobj hsel hmM hab i2 hni (g := g) hg (hlen _ hsig) hstack hdg
  obtain ⟨v, B, X', hpost, hs⟩ := hK m meth c ⟨T.setVm vm₁, locs, cells, slots⟩ { g with stack := rest } (.invokevirtual index) mk (.ref a :: argsL).toArray X₁ hg hsize hdg hW (X₁.named hnamed) (hpre vm₁ X₁.warmed)
  exact ⟨v, vm₁, B, X₁.warmed, X', hpost, hstep _ fun acts => by rw [doInvoke_state]; exact hs⟩
end Call
theorem cats_va (ρ : Nat → Nat) (st : List Value) : ((st.map (va ρ)).map fun v => v.category).sum = cats st := by
  simp only [cats, List.map_map]; congr 1; exact List.map_congr_left fun v _ => cat_va ρ v
/-- what a method of the class keeps, as a contract, from its walk -/
theorem met_of_CW {P : Cl} {Z : State} {a0 : Array Value} (LK : LinkC P Z a0) {n0 adr f mi : Nat} {me : Me} (hme : asc P.ms mi = some me) (hW : CW P Z n0 adr f mi me) (l : Launch) {bytes : ByteArray}
    (hdec : ∀ pc i n, fetch me.cd pc = some (i, n) → decode bytes pc = .ok (i, n) ∧ (isSw i = true ∨ n = ilen i))
    {as : List Value} (hd : ∀ v ∈ as, ∀ x, v ≠ .double x) (hlen : (layA as).length ≤ me.ml) {c : Nat} {s s' : St} {v : Option Value} {h : Heap} (hr : cexec P f mi me c 0 (lay as me.ml) [] s = some (v, s')) (hc : mi = 0 → c = 0)
    (H : HRep P Z h adr c s) (hsz : mi = 0 → h.size = adr + 1) :
    MetFree l (yOf P me) (head1 [Cond.code (yOf P me) bytes me.ml (retOf me.rt)] (cRoom P mi me)) (fun a U => a = (as.map (va (adr + ·))).toArray ∧ Z.Warmed39 U.vm ∧ U.heap = h) (fun _ _ _ _ _ => True)
      (fun _ U o U' => ∃ w L, o = .returned w ∧ QC P Z n0 adr mi c v s' h w U'.heap L ∧ FrameEnd U o U' L (cRoom P mi me).cells (cRoom P mi me).slots) := by
  refine MetFree.of_bodySF (plainFor_of_name LK.2.2.2.2.2.2.2.2.2.2.1) hisR ?_
  intro p e s₀ m args below meth cd s₁ Bd hml hP hK
  obtain ⟨rfl, hZ, hh⟩ := hP
  have e0 : s₁.heap = h := by rw [← hh, Bd.state]; rfl
  have X0 : Stand p l e (cRoom P mi me) s₀ m _ below meth cd s₁ [] 0 0 := Stand.of_body Bd
  have hown : s₀.vm.findClass P.nm = some m.cls := findClass_of_methodNamed Bd.named
  have hnm : meth.name = me.nm := (name_of_methodNamed Bd.named Bd.method).1
  have hk0 : co mi c = 0 := by simp only [co]; split; · rename_i q; exact hc q
                               · rfl
  have hz0 : zo P mi c = 0 := by
    simp only [zo]; split
    · rename_i q; rw [hc q]; simp [zs]
    · rfl
  have D := hW p l e s₀ m _ below meth cd s₁ [] h c 0 (lay as me.ml) [] s v s' _ Bd.exec hZ hown hnm Bd.returns hml Bd.notSynchronized (fun q => by rw [hh]; exact hsz q)
    (fun pc i n q => by rw [Bd.bytes]; exact hdec pc i n q) hr (by rw [hk0, hz0]; exact X0)
    ⟨by rw [e0]; exact H, Fr.nil n0, by rw [e0]; exact fun x _ => rfl, by
      rw [e0]; split
      · rename_i q; rw [hsz q, hc q]
      · rfl⟩ (lay_LR hd hlen) (lay_len hlen)
  obtain ⟨s₂, o, a1, a2, a3, w, L, a4, a5, a6⟩ := D
  exact ⟨s₂, o, a1, a2, a3, w, L, a4, a5, a6⟩
end Jvm.LM

namespace Jvm.LM
open Sem ClassFile Op Lib Jvm.Stand Jvm.Free Jvm.LawKit Jvm.RoadKit
section Steps
variable {p : Program} {l : Launch} {e : Env} {R : Room} {s₀ : State} {m : MethodId} {args : Array Value} {below : List Frame} {meth : Method} {cd : Code} {T : State} {locs : List Loc} {cells slots : Nat}
variable {P : Cl} {Z : State} {a0 : Array Value} {n0 adr c mi : Nat} {s s' : St} {h0 : Heap}
theorem gfld_val {x : Nat} {w : Value} (hg : gfld P x c s = some w) : ∃ k fe, asc P.fx x = some k ∧ asc P.fs k = some fe ∧ Fval adr c s k fe = va (adr + ·) w := by
  unfold gfld at hg
  split at hg
  · cases hg
  · rename_i k e1
    split at hg
    · cases hg
    · rename_i fe e2
      refine ⟨k, fe, e1, e2, ?_⟩
      simp only [Fval]
      split at hg
      · rename_i e3; cases hg; first | rfl | (rw [e3]; rfl)
      · rename_i e3; cases hg; first | rfl | (rw [e3]; rfl)
      · rename_i e3; cases hg; first | rfl | (rw [e3]; rfl)
      · rename_i j e3
        split at hg
        · rename_i e4; cases hg; first | (simp only [if_pos e4]; rfl) | (rw [e3]; simp only [if_pos e4]; rfl)
        · cases hg
theorem st_get (LK : LinkC P Z a0) (X : Stand p l e R s₀ m args below meth cd T locs cells slots) (hx : p.tables.exec = Jvm.exec) (hZ : Z.Warmed39 s₀.vm) (hown : s₀.vm.findClass P.nm = some m.cls) (H : HRep P Z T.heap adr c s) {x pc : Nat} {w : Value} (hg : gfld P x c s = some w)
    (hd : decode cd.code pc = .ok (.getfield x, 3)) {L : Array Slot} {r : List Value} :
    ∃ T', Stand p l e R s₀ m args below meth cd T' locs cells slots ∧ T'.heap = T.heap ∧ ∀ t, Steps p.tables e below (T'.setTop (mkF m (pc + 3) L (va (adr + ·) w :: r))) t → Steps p.tables e below (T.setTop (mkF m pc L (.ref adr :: r))) t := by
  obtain ⟨k, fe, e1, e2, e3⟩ := gfld_val (adr := adr) hg
  have F := H.2.1 k fe e2
  rw [e3] at F
  exact getF X hx hZ hown (host := "") (Or.inl (LK.2.1 _ _ e1 _ e2)) Via.refl rfl F (g := mkF m pc L (.ref adr :: r)) rfl rfl hd
theorem st_put (LK : LinkC P Z a0) (X : Stand p l e R s₀ m args below meth cd T locs cells slots) (hx : p.tables.exec = Jvm.exec) (hZ : Z.Warmed39 s₀.vm) (hown : s₀.vm.findClass P.nm = some m.cls) (hna : n0 ≤ adr) (I : Inv P Z n0 adr mi c s h0 T.heap locs) {x pc : Nat} {w : Value} {ini : Bool} (hini : ini = true → meth.name = "<init>") (hg : pfld P x ini w s = some s')
    (hd : decode cd.code pc = .ok (.putfield x, 3)) {L : Array Slot} {r : List Value} :
    ∃ T' locs', Stand p l e R s₀ m args below meth cd T' locs' cells slots ∧ Inv P Z n0 adr mi c s' h0 T'.heap locs' ∧ ∀ t, Steps p.tables e below (T'.setTop (mkF m (pc + 3) L r)) t → Steps p.tables e below (T.setTop (mkF m pc L (w :: .ref adr :: r))) t := by
  obtain ⟨H, hFr, hK, hS⟩ := I
  obtain ⟨nF, hnF⟩ := LK.1.1
  unfold pfld at hg
  split at hg
  · cases hg
  · rename_i k e1
    split at hg
    · cases hg
    · rename_i fe e2
      split at hg
      · cases hg
      · rename_i e3
        have hL : (Cond.lays P.nm P.nm fe.1 fe.2.1).before a0 Z = true ∨ ((Cond.laysFinal P.nm P.nm fe.1 fe.2.1).before a0 Z = true ∧ P.nm = P.nm ∧ meth.name = "<init>") := by
          have q := LK.2.2.1 k fe e2
          split at q
          · rename_i e4
            refine Or.inr ⟨q, rfl, hini ?_⟩
            cases ini
            · exact absurd ⟨e4, rfl⟩ e3
            · rfl
          · exact Or.inl q
        have hp := LK.2.2.2.1 k fe e2
        have fin : ∀ {T' : State} {h' : Heap} {v' : Value}, Stand p l e R s₀ m args below meth cd T' (locs ++ [⟨adr, RoadKit.slotOf Z P.nm fe.1 fe.2.1⟩]) cells slots → T'.heap = h' → Wr T.heap h' adr (RoadKit.slotOf Z P.nm fe.1 fe.2.1) v' → v' = Fval adr c s' k fe →
            (∀ a b, (a ≠ 0 ∨ b ≠ k) → gI s' a b = gI s a b ∧ gL s' a b = gL s a b) → Inv P Z n0 adr mi c s' h0 T'.heap (locs ++ [⟨adr, RoadKit.slotOf Z P.nm fe.1 fe.2.1⟩]) := fun {T' h' v'} X' e4 W e5 e6 => by
          rw [e4]
          exact ⟨H.putFld LK e2 W e5 e6, Fr.snoc X' hFr hna, hK.wr W (Nat.le_refl _) (by omega), by rw [W.size]; exact hS⟩
        split at hg
        · rename_i z e4
          cases hg
          rw [e4] at hp
          obtain ⟨T', h', X', q1, W, st⟩ := putF X hx hZ hown (host := "") (Or.inl (LK.2.1 _ _ e1 _ e2)) Via.refl rfl (H.2.1 k fe e2) H.1 hL hnF hp (narrow_I z) rfl (g := mkF m pc L (.int z :: .ref adr :: r)) rfl rfl hd
          refine ⟨T', _, X', fin X' q1 W (by simp only [Fval, e4]; simp [gI_sI]) (fun a b hab => ?_), st⟩
          rw [gI_sI, gL_sI, if_neg (by omega)]; exact ⟨rfl, rfl⟩
        · rename_i z e4
          cases hg
          rw [e4] at hp
          obtain ⟨T', h', X', q1, W, st⟩ := putFN X hx hZ hown (LK.2.1 _ _ e1 _ e2) Via.refl rfl (H.2.1 k fe e2) H.1 hL hnF (v' := .int (z &&& 1)) hp rfl (fits_nar_bool z) (g := mkF m pc L (.int z :: .ref adr :: r)) rfl rfl hd
          refine ⟨T', _, X', fin X' q1 W (by simp only [Fval, e4]; simp [gI_sI]) (fun a b hab => ?_), st⟩
          rw [gI_sI, gL_sI, if_neg (by omega)]; exact ⟨rfl, rfl⟩
        · rename_i z e4
          cases hg
          rw [e4] at hp
          obtain ⟨T', h', X', q1, W, st⟩ := putF X hx hZ hown (host := "") (Or.inl (LK.2.1 _ _ e1 _ e2)) Via.refl rfl (H.2.1 k fe e2) H.1 hL hnF hp rfl rfl (g := mkF m pc L (.long z :: .ref adr :: r)) rfl rfl hd
          refine ⟨T', _, X', fin X' q1 W (by simp only [Fval, e4]; simp [gL_sL]) (fun a b hab => ?_), st⟩
          rw [gL_sL, gI_sL, if_neg (by omega)]; exact ⟨rfl, rfl⟩
        · cases hg
theorem lda_spec {tt : Nat} {st st' : List Value} (hl : lda P tt c st s = some st') : ∃ i a r N, st = .int i :: .ref (a + 1) :: r ∧ P.al[a]? = some (tt, N) ∧ a < c ∧ inb N i ∧ st' = elv tt s (a + 1) (ix i) :: r := by
  unfold lda at hl
  split at hl
  · rename_i i a r
    split at hl
    · rename_i t2 N e1
      split at hl
      · rename_i e2
        obtain ⟨rfl, e3⟩ := e2
        split at hl
        · rename_i e4; cases hl; exact ⟨i, a, r, N, rfl, e1, e3, e4, rfl⟩
        · cases hl
      · cases hl
    · cases hl
  · cases hl
theorem va_elv (ρ : Nat → Nat) (tt : Nat) (s : St) (j i : Nat) : va ρ (elv tt s j i) = elv tt s j i := by unfold elv; split <;> rfl
theorem st_lda (X : Stand p l e R s₀ m args below meth cd T locs cells slots) (hx : p.tables.exec = Jvm.exec) (hZ : Z.Warmed39 s₀.vm) (H : HRep P Z T.heap adr c s) {tt pc : Nat} {st st' : List Value} (hl : lda P tt c st s = some st') {i : Instr}
    (hi : (tt = 0 ∧ i = .iaload) ∨ (tt = 1 ∧ i = .baload) ∨ (tt = 2 ∧ i = .laload)) (hd : decode cd.code pc = .ok (i, 1)) {L : Array Slot} :
    ∀ t, Steps p.tables e below (T.setTop (mkF m (pc + 1) L (st'.map (va (adr + ·))))) t → Steps p.tables e below (T.setTop (mkF m pc L (st.map (va (adr + ·))))) t := by
  obtain ⟨j, a, r, N, rfl, e1, e2, e3, rfl⟩ := lda_spec hl
  obtain ⟨cl, A, hN, hv⟩ := H.2.2.1 a tt N e1 e2
  have hin : ¬ (j < 0 ∨ cl.slots.size ≤ j.toNatClampNeg) := by rw [hN]; exact inb_not e3
  have hat : cl.slots[j.toNatClampNeg]? = some (elv tt s (a + 1) (ix j)) := hv (ix j) (inb_ix e3)
  intro t q
  rw [List.map_cons, va_elv] at q
  rcases hi with ⟨rfl, rfl⟩ | ⟨rfl, rfl⟩ | ⟨rfl, rfl⟩
  · exact X.iaload hx A.1 (State.isArrayOf_alike hZ.alike A.2.1) A.2.2 hin hat (g := mkF m pc L (.int j :: .ref (adr + (a + 1)) :: r.map (va (adr + ·)))) rfl rfl hd t q
  · exact X.baloadBooleans hx A.1 (State.isArrayOf_alike hZ.alike A.2.1) A.2.2 hin hat (g := mkF m pc L (.int j :: .ref (adr + (a + 1)) :: r.map (va (adr + ·)))) rfl rfl hd t q
  · exact X.laload hx A.1 (State.isArrayOf_alike hZ.alike A.2.1) A.2.2 hin hat (g := mkF m pc L (.int j :: .ref (adr + (a + 1)) :: r.map (va (adr + ·)))) rfl rfl hd t q
theorem sta_spec {tt : Nat} {st st' : List Value} (hl : sta P tt c st s = some (st', s')) : ∃ v i a N, st = v :: .int i :: .ref (a + 1) :: st' ∧ P.al[a]? = some (tt, N) ∧ a < c ∧ inb N i ∧
    ((tt = 0 ∧ ∃ z, v = .int z ∧ s' = sI s (a + 1) (ix i) z) ∨ (tt = 1 ∧ ∃ z, v = .int z ∧ s' = sI s (a + 1) (ix i) (z &&& 1)) ∨ (tt = 2 ∧ ∃ z, v = .long z ∧ s' = sL s (a + 1) (ix i) z)) := by
  unfold sta at hl
  split at hl
  · rename_i v i a r
    split at hl
    · rename_i t2 N e1
      split at hl
      · rename_i e2
        obtain ⟨rfl, e3⟩ := e2
        split at hl
        · rename_i e4
          split at hl
          · cases hl; exact ⟨_, i, a, N, rfl, e1, e3, e4, Or.inl ⟨rfl, _, rfl, rfl⟩⟩
          · cases hl; exact ⟨_, i, a, N, rfl, e1, e3, e4, Or.inr (Or.inl ⟨rfl, _, rfl, rfl⟩)⟩
          · cases hl; exact ⟨_, i, a, N, rfl, e1, e3, e4, Or.inr (Or.inr ⟨rfl, _, rfl, rfl⟩)⟩
          · cases hl
        · cases hl
      · cases hl
    · cases hl
  · cases hl
theorem st_sta (X : Stand p l e R s₀ m args below meth cd T locs cells slots) (hx : p.tables.exec = Jvm.exec) (hZ : Z.Warmed39 s₀.vm) (hna : n0 ≤ adr) (I : Inv P Z n0 adr mi c s h0 T.heap locs) {tt pc : Nat} {st st' : List Value} (hl : sta P tt c st s = some (st', s')) {i : Instr}
    (hi : (tt = 0 ∧ i = .iastore) ∨ (tt = 1 ∧ i = .bastore) ∨ (tt = 2 ∧ i = .lastore)) (hd : decode cd.code pc = .ok (i, 1)) {L : Array Slot} :
    ∃ T' locs', Stand p l e R s₀ m args below meth cd T' locs' cells slots ∧ Inv P Z n0 adr mi c s' h0 T'.heap locs' ∧ ∀ t, Steps p.tables e below (T'.setTop (mkF m (pc + 1) L (st'.map (va (adr + ·))))) t → Steps p.tables e below (T.setTop (mkF m pc L (st.map (va (adr + ·))))) t := by
  obtain ⟨H, hFr, hK, hS⟩ := I
  obtain ⟨v, j, a, N, rfl, e1, e2, e3, e4⟩ := sta_spec hl
  obtain ⟨cl, A, hN, hv⟩ := H.2.2.1 a tt N e1 e2
  have hin : ¬ (j < 0 ∨ cl.slots.size ≤ j.toNatClampNeg) := by rw [hN]; exact inb_not e3
  have hal := (List.getElem?_eq_some_iff.mp e1).1
  have fin : ∀ {T' : State} {h' : Heap} {v' : Value}, Stand p l e R s₀ m args below meth cd T' (locs ++ [⟨adr + (a + 1), j.toNatClampNeg⟩]) cells slots → T'.heap = h' → Wr T.heap h' (adr + (a + 1)) j.toNatClampNeg v' → v' = elv tt s' (a + 1) (ix j) →
      (∀ x y, (x ≠ a + 1 ∨ y ≠ ix j) → gI s' x y = gI s x y ∧ gL s' x y = gL s x y) → Inv P Z n0 adr mi c s' h0 T'.heap (locs ++ [⟨adr + (a + 1), j.toNatClampNeg⟩]) := fun {T' h' v'} X' q1 W q2 q3 => by
    rw [q1]
    exact ⟨H.putArr e1 e2 (inb_ix e3) W q2 q3, Fr.snoc X' hFr (by omega), hK.wr W (by omega) (by omega), by rw [W.size]; exact hS⟩
  rcases e4 with ⟨rfl, z, rfl, rfl⟩ | ⟨rfl, z, rfl, rfl⟩ | ⟨rfl, z, rfl, rfl⟩
  · obtain ⟨-, rfl⟩ : (0 : Nat) = 0 ∧ i = .iastore := by rcases hi with q | q | q <;> first | exact q | (have := q.1; omega)
    obtain ⟨T', h', X', q1, W, st⟩ := stI X hx hZ rfl A hin (g := mkF m pc L (.int z :: .int j :: .ref (adr + (a + 1)) :: st'.map (va (adr + ·)))) rfl rfl hd
    refine ⟨T', _, X', fin X' q1 W (by simp [elv, gI_sI, ix]) (fun x y hxy => ?_), st⟩
    rw [gI_sI, gL_sI, if_neg (fun q => hxy.elim (fun z => z q.1) (fun z => z q.2))]; exact ⟨rfl, rfl⟩
  · obtain ⟨-, rfl⟩ : (1 : Nat) = 1 ∧ i = .bastore := by rcases hi with q | q | q <;> first | exact q | (have := q.1; omega)
    obtain ⟨T', h', X', q1, W, st⟩ := stZ X hx hZ rfl A hin (g := mkF m pc L (.int z :: .int j :: .ref (adr + (a + 1)) :: st'.map (va (adr + ·)))) rfl rfl hd
    refine ⟨T', _, X', fin X' q1 W (by simp [elv, gI_sI, ix, nar]) (fun x y hxy => ?_), st⟩
    rw [gI_sI, gL_sI, if_neg (fun q => hxy.elim (fun z => z q.1) (fun z => z q.2))]; exact ⟨rfl, rfl⟩
  · obtain ⟨-, rfl⟩ : (2 : Nat) = 2 ∧ i = .lastore := by rcases hi with q | q | q <;> first | exact q | (have := q.1; omega)
    obtain ⟨T', h', X', q1, W, st⟩ := stJ X hx hZ rfl A hin (g := mkF m pc L (.long z :: .int j :: .ref (adr + (a + 1)) :: st'.map (va (adr + ·)))) rfl rfl hd
    refine ⟨T', _, X', fin X' q1 W (by simp [elv, gL_sL, ix]) (fun x y hxy => ?_), st⟩
    rw [gL_sL, gI_sL, if_neg (fun q => hxy.elim (fun z => z q.1) (fun z => z q.2))]; exact ⟨rfl, rfl⟩
theorem newF_spec {t : ArrayType} {code : Cd} {pc : Nat} {st : List Value} (h : newF P t code pc c st = true) : ∃ n x k fe tt N, st = [.int n, .ref 0] ∧ fetch code (pc + 2) = some (.putfield x, 3) ∧ asc P.fx x = some k ∧ asc P.fs k = some fe ∧ P.al[c]? = some (tt, N) ∧
    fe.2.2.1 = c + 3 ∧ t = atOf tt ∧ 0 ≤ n.toInt ∧ n.toInt = N ∧ N < 1000000 := by
  unfold newF at h
  split at h
  · rename_i n
    split at h
    · rename_i x e1
      split at h
      · rename_i k e2
        split at h
        · rename_i fe e3
          split at h
          · rename_i tt N e4
            obtain ⟨q1, q2, q3, q4, q5⟩ := of_decide_eq_true h
            exact ⟨n, x, k, fe, tt, N, rfl, e1, e2, e3, e4, q1, q2, q3, q4, q5⟩
          · cases h
        · cases h
      · cases h
    · cases h
  · cases h
theorem ty_at {tt : Nat} (h : tt ≤ 2) : newarray.typeOf (atOf tt) = tyOf tt := by
  have : tt = 0 ∨ tt = 1 ∨ tt = 2 := by omega
  rcases this with rfl | rfl | rfl <;> rfl
theorem st_new (LK : LinkC P Z a0) {me : Me} (hme : asc P.ms 0 = some me) (hnm : meth.name = me.nm) (X : Stand p l e (cRoom P 0 me) s₀ m args below meth cd T locs (co 0 c) (zo P 0 c)) (hx : p.tables.exec = Jvm.exec) (hZ : Z.Warmed39 s₀.vm) (hown : s₀.vm.findClass P.nm = some m.cls) (hna : n0 ≤ adr) (hs0 : s₀.heap.size = adr + 1) (I : Inv P Z n0 adr 0 c s h0 T.heap locs)
    (hdec : ∀ pc i n, fetch me.cd pc = some (i, n) → decode cd.code pc = .ok (i, n) ∧ (isSw i = true ∨ n = ilen i)) {t : ArrayType} {pc : Nat} {st : List Value} (h : newF P t me.cd pc c st = true) (hd : decode cd.code pc = .ok (.newarray t, 2)) {L : Array Slot} :
    ∃ T' locs', Stand p l e (cRoom P 0 me) s₀ m args below meth cd T' locs' (co 0 (c + 1)) (zo P 0 (c + 1)) ∧ Inv P Z n0 adr 0 (c + 1) s h0 T'.heap locs' ∧ ∀ t, Steps p.tables e below (T'.setTop (mkF m (pc + 5) L [])) t → Steps p.tables e below (T.setTop (mkF m pc L (st.map (va (adr + ·))))) t := by
  obtain ⟨H, hFr, hK, hS⟩ := I
  obtain ⟨nF, hnF⟩ := LK.1.1
  obtain ⟨n, x, k, fe, tt, N, rfl, e1, e2, e3, e4, e5, rfl, e6, e7, e8⟩ := newF_spec h
  obtain ⟨htt, hac⟩ := LK.2.2.2.2.2.1 _ _ _ e4
  have hal := (List.getElem?_eq_some_iff.mp e4).1
  have hS' : T.heap.size = adr + 1 + c := hS
  have hty := ty_at htt
  have hini : meth.name = "<init>" := by rw [hnm]; exact LK.2.2.2.2.2.2.2.2.2.2.2.2 me hme
  have hLy : (Cond.lays P.nm P.nm fe.1 fe.2.1).before a0 Z = true ∨ ((Cond.laysFinal P.nm P.nm fe.1 fe.2.1).before a0 Z = true ∧ P.nm = P.nm ∧ meth.name = "<init>") := by
    have q := LK.2.2.1 k fe e3
    split at q
    · exact Or.inr ⟨q, rfl, hini⟩
    · exact Or.inl q
  have hzc := zs_succ P.al e4
  have hzm := zs_le P.al (c + 1)
  obtain ⟨T1, hp1, cA, X1, q1, E, A, st1⟩ := newP X hx hZ (aty := atOf tt) (by rw [hty]; exact hac) rfl (g := mkF m pc L [.int n, .ref adr]) rfl hd rfl (by rw [Int32.lt_iff_toInt_lt]; simp only [Int32.reduceToInt]; omega) (cap := N)
    (by simp only [Int32.toNatClampNeg]; omega) (by omega) (by simp only [co, cRoom, if_true]; omega) (by simp only [zo, cRoom, if_true]; omega)
  rw [hty] at A
  have hp := LK.2.2.2.1 k fe e3
  rw [e5] at hp
  obtain ⟨d2, -⟩ := hdec _ _ _ e1
  have hsz1 : hp1.size = adr + 1 + (c + 1) := by
    have hh : T1.heap.size ≤ s₀.heap.size + (c + 1) := X1.heapSize
    have g2 : T.heap.size < Array.size hp1 := A.lt
    rw [q1, hs0] at hh
    rw [hS'] at g2
    omega
  obtain ⟨T2, hp2, X2, q2, W, st2⟩ := putF X1 hx hZ hown (host := "") (Or.inl (LK.2.1 _ _ e2 _ e3)) Via.refl q1 ((H.2.1 k fe e3).ext E) (H.1.ext E) hLy hnF (v := .ref T.heap.size) hp rfl rfl (g := mkF m (pc + 2) L [.ref T.heap.size, .ref adr]) rfl rfl d2
  refine ⟨T2, _, by simpa [co, zo, hzc] using X2, ?_, fun t q => st1 _ (st2 _ q)⟩
  rw [q2]
  refine ⟨H.newArr LK e3 e5 e4 e6 e7 hS' E A W, Fr.snoc X2 hFr hna, ?_, by rw [W.size, hsz1]; simp⟩
  exact (hK.ext E (by rw [hsz1]; omega) (by omega)).wr W (Nat.le_refl _) (by omega)
end Steps
end Jvm.LM

namespace Jvm.LM
open Sem ClassFile Op Lib Jvm.Stand Jvm.Free Jvm.LawKit Jvm.RoadKit
theorem cret_spec {me : Me} {st : List Value} {i : Instr} {v : Option Value} (h : cret me st i = some v) :
    (∃ x, i = .ireturn ∧ st = [.int x] ∧ ((me.rt = 1 ∧ v = some (.int x)) ∨ (me.rt = 2 ∧ v = some (.int (x &&& 1))))) ∨ (∃ x, i = .lreturn ∧ st = [.long x] ∧ me.rt = 3 ∧ v = some (.long x)) ∨ (i = .return_ ∧ st = [] ∧ me.rt = 0 ∧ v = none) := by
  unfold cret at h
  split at h
  · split at h
    · rename_i x
      split at h
      · rename_i e1; cases h; exact Or.inl ⟨x, rfl, rfl, Or.inl ⟨e1, rfl⟩⟩
      · split at h
        · rename_i e1; cases h; exact Or.inl ⟨x, rfl, rfl, Or.inr ⟨e1, rfl⟩⟩
        · cases h
    · cases h
  · split at h
    · rename_i x
      split at h
      · rename_i e1; cases h; exact Or.inr (Or.inl ⟨x, rfl, rfl, e1, rfl⟩)
      · cases h
    · cases h
  · split at h
    · split at h
      · rename_i e1; cases h; exact Or.inr (Or.inr ⟨rfl, rfl, e1, rfl⟩)
      · cases h
    · cases h
  · cases h
section Ret
variable {p : Program} {l : Launch} {e : Env} {R : Room} {s₀ : State} {m : MethodId} {args : Array Value} {below : List Frame} {meth : Method} {cd : Code} {T : State} {locs : List Loc} {cells slots : Nat}
theorem retI' (X : Stand p l e R s₀ m args below meth cd T locs cells slots) (hx : p.tables.exec = Jvm.exec) {pc : Nat} {Ls : Array Slot} {z : Int32} {rest : List Value} (hret : meth.sig.returnType = some .int) (hd : decode cd.code pc = .ok (.ireturn, 1)) {fs : List Frame}
    (hl : ∀ (f : JFrame) (acts : List Action), f.method = m → f.locked = none → f.entered = [] → (doReturn e (T.setTop f) acts (some (.int z))).1 = T.setFrames fs) : Steps p.tables e below (T.setTop (mkF m pc Ls (.int z :: rest))) (T.setFrames fs) :=
  retOut X hx (t := .int) (i := .ireturn) hret rfl (Or.inl ⟨rfl, Or.inl rfl, z, rfl⟩) hd hl
theorem st_ret (X : Stand p l e R s₀ m args below meth cd T locs cells slots) (hx : p.tables.exec = Jvm.exec) {me : Me} (hret : meth.sig.returnType = retOf me.rt) (hlk : meth.locks = false) {ρ : Nat → Nat} {st : List Value} {i : Instr} {v : Option Value} (h : cret me st i = some v) {pc n : Nat} (hd : decode cd.code pc = .ok (i, n)) (hn : isSw i = true ∨ n = ilen i)
    {Q : Option Value → Heap → List Loc → Prop} (hQ : Q v T.heap locs) (hc : cells ≤ R.cells) (hs : slots ≤ R.slots) {L : Array Slot} : Don p e below s₀ R Q (T.setTop (mkF m pc L (st.map (va ρ)))) := by
  rcases cret_spec h with ⟨x, rfl, rfl, h1⟩ | ⟨x, rfl, rfl, h1, rfl⟩ | ⟨rfl, rfl, h1, rfl⟩
  · obtain rfl := hn.resolve_left Bool.false_ne_true
    rcases h1 with ⟨h1, rfl⟩ | ⟨h1, rfl⟩
    · rw [h1] at hret
      obtain ⟨fs, hr, hrun, hended, hW, hsame⟩ := X.leave (v := some (.int x)) (fun q => by rw [hret] at q; cases q) hlk
      exact ⟨_, _, retI' X hx hret hd hr, hrun, hended, _, _, rfl, hQ, ⟨_, rfl⟩, hW, hsame.mono hc hs⟩
    · rw [h1] at hret
      obtain ⟨fs, hr, hrun, hended, hW, hsame⟩ := X.leave (v := some (.int (x &&& 1))) (fun q => by rw [hret] at q; cases q) hlk
      exact ⟨_, _, retN X hx (t := .boolean) hret (Or.inl rfl) hd hr, hrun, hended, _, _, rfl, hQ, ⟨_, rfl⟩, hW, hsame.mono hc hs⟩
  · obtain rfl := hn.resolve_left Bool.false_ne_true
    rw [h1] at hret
    obtain ⟨fs, hr, hrun, hended, hW, hsame⟩ := X.leave (v := some (.long x)) (fun q => by rw [hret] at q; cases q) hlk
    exact ⟨_, _, retOut X hx (t := .long) (i := .lreturn) hret rfl (Or.inr (Or.inl ⟨rfl, rfl, x, rfl⟩)) hd hr, hrun, hended, _, _, rfl, hQ, ⟨_, rfl⟩, hW, hsame.mono hc hs⟩
  · obtain rfl := hn.resolve_left Bool.false_ne_true
    rw [h1] at hret
    obtain ⟨fs, hr, hrun, hended, hW, hsame⟩ := X.leave (v := none) (fun _ => rfl) hlk
    exact ⟨_, _, X.returnOut hx hret hd hr, hrun, hended, _, _, rfl, hQ, ⟨_, rfl⟩, hW, hsame.mono hc hs⟩
end Ret
theorem cret_va {me : Me} {st : List Value} {i : Instr} {v : Option Value} (h : cret me st i = some v) (ρ : Nat → Nat) : v.toList.map (va ρ) = v.toList := by
  rcases cret_spec h with ⟨x, rfl, rfl, ⟨-, rfl⟩ | ⟨-, rfl⟩⟩ | ⟨x, rfl, rfl, -, rfl⟩ | ⟨rfl, rfl, -, rfl⟩ <;> rfl
theorem nd_rev {ρ : Nat → Nat} {as : List Value} (h : nd as = true) : ∀ v ∈ (Value.ref 0 :: as.reverse), ∀ x, v ≠ .double x := fun v hv x e => by
  rcases List.mem_cons.mp hv with q | q
  · subst q; cases e
  · exact nd_spec h v (List.mem_reverse.mp q) x e
theorem pfld_va {P : Cl} {x : Nat} {ini : Bool} {w : Value} {s s1 : St} (hg : pfld P x ini w s = some s1) (ρ : Nat → Nat) : va ρ w = w := by
  cases w <;> first | rfl | skip
  exfalso
  unfold pfld at hg
  split at hg
  · cases hg
  · split at hg
    · cases hg
    · split at hg
      · cases hg
      · split at hg
        · rename_i q; cases q
        · rename_i q; cases q
        · rename_i q; cases q
        · cases hg
theorem cwalk {P : Cl} {Z : State} {a0 : Array Value} (LK : LinkC P Z a0) {n0 adr : Nat} (hna : n0 ≤ adr) : ∀ f mi me, asc P.ms mi = some me → CW P Z n0 adr f mi me := by
  intro f
  induction f with
  | zero =>
    intro mi me hme p l e s₀ m args below meth cd T locs h0 c pc ls st s v s' L hx hZ hown hnm hret hml hlk hs0 hdec hr
    cases hr
  | succ f ih =>
    intro mi me hme p l e s₀ m args below meth cd T locs h0 c pc ls st s v s' L hx hZ hown hnm hret hml hlk hs0 hdec hr X I hL hlen
    simp only [cexec] at hr
    split at hr
    · cases hr
    · rename_i i n hf
      obtain ⟨hd, hn⟩ := hdec pc i n hf
      have ihk := ih mi me hme
      have hsize : L.size = cd.maxLocals := by rw [hL.1, hlen, hml]
      obtain ⟨nF, hnF⟩ := LK.1.1
      unfold cstep at hr
      split at hr
      -- getfield
      · obtain rfl := hn.resolve_left Bool.false_ne_true
        split at hr
        · rename_i r
          split at hr
          · rename_i w hg
            obtain ⟨T', X', q1, st⟩ := st_get LK X hx hZ hown I.1 hg hd (L := L) (r := r.map (va (adr + ·)))
            exact Don.step st (ihk p l e s₀ m args below meth cd T' locs h0 c _ ls (w :: r) s v s' L hx hZ hown hnm hret hml hlk hs0 hdec hr X' (by rw [q1]; exact I) hL hlen)
          · cases hr
        · cases hr
      -- putfield
      · obtain rfl := hn.resolve_left Bool.false_ne_true
        split at hr
        · rename_i w r
          split at hr
          · rename_i s1 hg
            have hini : (mi == 0) = true → meth.name = "<init>" := fun q => by
              have q : mi = 0 := by simpa using q
              subst q; rw [hnm]; exact LK.2.2.2.2.2.2.2.2.2.2.2.2 me hme
            have hw : va (adr + ·) w = w := pfld_va hg _
            obtain ⟨T', locs', X', I', st⟩ := st_put LK X hx hZ hown hna I hini hg hd (L := L) (r := r.map (va (adr + ·)))
            refine Don.step (fun t q => ?_) (ihk p l e s₀ m args below meth cd T' locs' h0 c _ ls r s1 v s' L hx hZ hown hnm hret hml hlk hs0 hdec hr X' I' hL hlen)
            have := st t q
            rw [List.map_cons, hw]; exact this
          · cases hr
        · cases hr
      -- loads of arrays
      · obtain rfl := hn.resolve_left Bool.false_ne_true
        split at hr
        · rename_i st' hg
          exact Don.step (st_lda X hx hZ I.1 hg (Or.inl ⟨rfl, rfl⟩) hd) (ihk p l e s₀ m args below meth cd T locs h0 c _ ls st' s v s' L hx hZ hown hnm hret hml hlk hs0 hdec hr X I hL hlen)
        · cases hr
      · obtain rfl := hn.resolve_left Bool.false_ne_true
        split at hr
        · rename_i st' hg
          exact Don.step (st_lda X hx hZ I.1 hg (Or.inr (Or.inl ⟨rfl, rfl⟩)) hd) (ihk p l e s₀ m args below meth cd T locs h0 c _ ls st' s v s' L hx hZ hown hnm hret hml hlk hs0 hdec hr X I hL hlen)
        · cases hr
      · obtain rfl := hn.resolve_left Bool.false_ne_true
        split at hr
        · rename_i st' hg
          exact Don.step (st_lda X hx hZ I.1 hg (Or.inr (Or.inr ⟨rfl, rfl⟩)) hd) (ihk p l e s₀ m args below meth cd T locs h0 c _ ls st' s v s' L hx hZ hown hnm hret hml hlk hs0 hdec hr X I hL hlen)
        · cases hr
      -- stores into arrays
      · obtain rfl := hn.resolve_left Bool.false_ne_true
        split at hr
        · rename_i st' s1 hg
          obtain ⟨T', locs', X', I', st⟩ := st_sta X hx hZ hna I hg (Or.inl ⟨rfl, rfl⟩) hd (L := L)
          exact Don.step st (ihk p l e s₀ m args below meth cd T' locs' h0 c _ ls st' s1 v s' L hx hZ hown hnm hret hml hlk hs0 hdec hr X' I' hL hlen)
        · cases hr
      · obtain rfl := hn.resolve_left Bool.false_ne_true
        split at hr
        · rename_i st' s1 hg
          obtain ⟨T', locs', X', I', st⟩ := st_sta X hx hZ hna I hg (Or.inr (Or.inl ⟨rfl, rfl⟩)) hd (L := L)
          exact Don.step st (ihk p l e s₀ m args below meth cd T' locs' h0 c _ ls st' s1 v s' L hx hZ hown hnm hret hml hlk hs0 hdec hr X' I' hL hlen)
        · cases hr
      · obtain rfl := hn.resolve_left Bool.false_ne_true
        split at hr
        · rename_i st' s1 hg
          obtain ⟨T', locs', X', I', st⟩ := st_sta X hx hZ hna I hg (Or.inr (Or.inr ⟨rfl, rfl⟩)) hd (L := L)
          exact Don.step st (ihk p l e s₀ m args below meth cd T' locs' h0 c _ ls st' s1 v s' L hx hZ hown hnm hret hml hlk hs0 hdec hr X' I' hL hlen)
        · cases hr
      -- newarray and putfield
      · obtain rfl := hn.resolve_left Bool.false_ne_true
        split at hr
        · rename_i hg
          obtain ⟨rfl, hg⟩ := hg
          obtain ⟨T', locs', X', I', st⟩ := st_new LK hme hnm X hx hZ hown hna (hs0 rfl) I hdec hg hd (L := L)
          exact Don.step st (ihk p l e s₀ m args below meth cd T' locs' h0 (c + 1) _ ls [] s v s' L hx hZ hown hnm hret hml hlk hs0 hdec hr X' I' hL hlen)
        · cases hr
      -- constants
      · obtain rfl := hn.resolve_left Bool.false_ne_true
        split at hr
        · rename_i z hg
          exact Don.step (fun t q => X.ldcI hx hown (mv hZ (LK.2.2.2.2.2.2.1 _ _ hg)) (g := mkF m pc L (st.map (va (adr + ·)))) rfl hd q) (ihk p l e s₀ m args below meth cd T locs h0 c _ ls (.int z :: st) s v s' L hx hZ hown hnm hret hml hlk hs0 hdec hr X I hL hlen)
        · cases hr
      · obtain rfl := hn.resolve_left Bool.false_ne_true
        split at hr
        · rename_i z hg
          exact Don.step (fun t q => X.ldc2J hx hown (mv hZ (LK.2.2.2.2.2.2.1 _ _ hg)) (g := mkF m pc L (st.map (va (adr + ·)))) rfl hd q) (ihk p l e s₀ m args below meth cd T locs h0 c _ ls (.long z :: st) s v s' L hx hZ hown hnm hret hml hlk hs0 hdec hr X I hL hlen)
        · cases hr
      -- Object's constructor
      · obtain rfl := hn.resolve_left Bool.false_ne_true
        split at hr
        · rename_i r
          split at hr
          · rename_i hg
            obtain ⟨rfl, hg1, hg2⟩ := hg
            obtain ⟨w1, w2, w3⟩ := LK.2.2.2.2.2.2.2.1
            obtain ⟨T', X', q1, st⟩ := initO X hx hZ hown w1 w2 w3 rfl (g := mkF m pc L (.ref adr :: r.map (va (adr + ·)))) rfl hsize rfl hd hg1 (W := cats r) (by show 2 * 0 + _ ≤ _; rw [cats_va]; omega) hg2
            exact Don.step st (ihk p l e s₀ m args below meth cd T' locs h0 c _ ls r s v s' L hx hZ hown hnm hret hml hlk hs0 hdec hr X' (by rw [q1]; exact I) hL hlen)
          · cases hr
        · cases hr
      -- a call
      · obtain rfl := hn.resolve_left Bool.false_ne_true
        split at hr
        · cases hr
        · rename_i m' hm'
          split at hr
          · cases hr
          · rename_i me' hme'
            split at hr
            · rename_i r hst
              split at hr
              · rename_i hg
                obtain ⟨hg0, hg1, hg2, hg3⟩ := hg
                dsimp only at hr
                rw [hme'] at hr
                dsimp only at hr
                obtain ⟨bytes, ps, hcode, hdec', hpar, hpl⟩ := LK.2.2.2.2.2.2.2.2.1 m' me' hme'
                obtain ⟨w1, w2, w3⟩ := LK.2.2.2.2.2.2.2.2.2.1 _ _ hm' _ hme'
                by_cases hla : (layA (Value.ref 0 :: (st.take me'.na).reverse)).length ≤ me'.ml
                · rw [if_pos hla] at hr
                  cases hcl : cexec P f m' me' c 0 (lay (.ref 0 :: (st.take me'.na).reverse) me'.ml) [] s with
                  | none => rw [hcl] at hr; cases hr
                  | some vs =>
                    obtain ⟨w, s1⟩ := vs
                    rw [hcl] at hr
                    have hr' : cexec P f mi me c (pc + 3) ls (w.toList ++ r) s1 = some (v, s') := by cases w <;> exact hr
                    have hM := met_of_CW LK hme' (ih m' me' hme') l hdec' (as := .ref 0 :: (st.take me'.na).reverse) (nd_rev (ρ := id) hg3) hla hcl (fun q => absurd q hg0) I.1 (fun q => absurd q hg0)
                    have hB := backOf (R := cRoom P mi me) (p := p) (e := e) (below := below) (s := s₀) (args := args) (len := 3) (W := cats r) hM hZ hcode LK.1.2 hg1 hg2
                    have hdl : me'.na < st.length := by
                      have := congrArg List.length hst
                      simp at this; omega
                    have hsp : st = st.take me'.na ++ .ref 0 :: r := by rw [← hst, List.take_append_drop]
                    have hcell := I.1.1.cell
                    obtain ⟨cel, hc1, hc2⟩ := hcell
                    have key : ∃ (v' : Option Value) (U : State) (Lc : List Loc), Stand p l e (cRoom P mi me) s₀ m args below meth cd U (locs ++ Lc) (co mi c) (zo P mi c) ∧ QC P Z n0 adr m' c w s1 T.heap v' U.heap Lc ∧
                        Steps p.tables e below (T.setTop (mkF m pc L (st.map (va (adr + ·))))) (U.setTop (mkF m (pc + 3) L (v'.toList ++ r.map (va (adr + ·))))) := by
                      have hsm : st.map (va (adr + ·)) = ((st.take me'.na).reverse.map (va (adr + ·))).reverse ++ .ref adr :: r.map (va (adr + ·)) := by
                        conv => lhs; rw [hsp]
                        simp [va]
                      have hll : ∀ sig, parseMethodDescriptor (yOf P me').desc = some sig → ((st.take me'.na).reverse.map (va (adr + ·))).length = sig.parameters.length := lenOf hpar (by simp [hpl]; omega)
                      have hpre : ∀ vm₁, s₀.WarmedH vm₁ → ((Value.ref adr :: (st.take me'.na).reverse.map (va (adr + ·))).toArray = ((Value.ref 0 :: (st.take me'.na).reverse).map (va (adr + ·))).toArray ∧ (T.setVm vm₁).heap = T.heap ∧ co mi c + (cRoom P m' me').cells ≤ (cRoom P mi me).cells ∧ zo P mi c + (cRoom P m' me').slots ≤ (cRoom P mi me).slots) := fun vm₁ _ => by
                        refine ⟨by simp [va], rfl, ?_, ?_⟩
                        · simp only [co, cRoom, if_neg hg0]
                          have := I.1.2.2.2.2
                          split <;> omega
                        · simp only [zo, cRoom, if_neg hg0]
                          have := zs_le P.al c
                          split <;> omega
                      have hz1 : (cRoom P m' me').cells = 0 := by simp [cRoom, hg0]
                      have hz2 : (cRoom P m' me').slots = 0 := by simp [cRoom, hg0]
                      rcases w3 with w3 | ⟨w3, w4⟩
                      · obtain ⟨v', vm₁, ⟨U, lo, ce, sl⟩, -, X', ⟨Lc, hQ, l1, l2, l3⟩, stp⟩ := privCall X hx (y := yOf P me') hown (mv hZ w1) (mv hZ w2) (nF := nF) (mv hZ hnF) (Cond.privateMethod_at (mvP hZ w3 (args := args))) (mv hZ hcode) LK.2.2.2.2.2.2.2.2.2.2.2.1 hB (g := mkF m pc L (st.map (va (adr + ·)))) rfl hsize hc1 hc2 hll hsm (by show 2 * 0 + _ ≤ _; rw [cats_va]; omega) hd hpre
                        dsimp only [Pt.U, Pt.locs, Pt.cells, Pt.slots] at X' hQ l1 l2 l3 stp
                        subst l1 l2 l3
                        rw [hz1, hz2] at X'
                        exact ⟨v', U, Lc, X', hQ, stp⟩
                      · obtain ⟨cq, kq, qa, qb, qc⟩ := isOf hZ rfl I.1.1
                        obtain ⟨v', vm₁, ⟨U, lo, ce, sl⟩, -, X', ⟨Lc, hQ, l1, l2, l3⟩, stp⟩ := X.virtualBack hx (y := yOf P me') (z := yOf P me') hown (mv hZ w1) (mv hZ w3) (notFace_of_selects (args := #[]) (mv hZ w4)) (mv hZ w4) (mv hZ w2) LK.2.2.2.2.2.2.2.2.2.2.2.1 hB qa qc (g := mkF m pc L (st.map (va (adr + ·)))) rfl hsize (Steps.refl _) hll hsm (by show 2 * 0 + _ ≤ _; rw [cats_va]; omega) hd hpre
                        dsimp only [Pt.U, Pt.locs, Pt.cells, Pt.slots] at X' hQ l1 l2 l3 stp
                        subst l1 l2 l3
                        rw [hz1, hz2] at X'
                        exact ⟨v', U, Lc, X', hQ, stp⟩
                    obtain ⟨v', U, Lc, X', ⟨⟨rfl, hva⟩, hF', hH', hK', hS'⟩, stp⟩ := key
                    rw [if_neg hg0] at hH' hS'
                    refine Don.step (fun t q => stp.trans ?_) (ihk p l e s₀ m args below meth cd U (locs ++ Lc) h0 c _ ls (v'.toList ++ r) s1 v s' L hx hZ hown hnm hret hml hlk hs0 hdec hr' X' ⟨hH', I.2.1.app hF', I.2.2.1.trans hK', by rw [hS']; exact I.2.2.2⟩ hL hlen)
                    rw [List.map_append, hva] at q; exact q
                · rw [if_neg hla] at hr; cases hr
              · cases hr
            · cases hr
      -- the rest
      · split at hr
        · split at hr
          · cases hr
          · rename_i h1 hcf
            split at hr
            · rename_i w hw
              cases hr
              have hcf' : mi = 0 → c = P.al.length := fun q => Classical.byContradiction fun z => hcf ⟨q, z⟩
              have hA : HRep P Z T.heap adr (if mi = 0 then P.al.length else c) s := by
                by_cases q : mi = 0
                · rw [if_pos q, ← hcf' q]; exact I.1
                · rw [if_neg q]; exact I.1
              have hB : Array.size T.heap = if mi = 0 then adr + 1 + P.al.length else Array.size h0 := by
                rw [I.2.2.2]
                by_cases q : mi = 0
                · rw [if_pos q, if_pos q, ← hcf' q]
                · rw [if_neg q, if_neg q]
              have hC : co mi c ≤ (cRoom P mi me).cells := by
                simp only [co, cRoom]
                by_cases q : mi = 0
                · rw [if_pos q, if_pos q, ← hcf' q]; exact Nat.le_refl _
                · rw [if_neg q, if_neg q]; exact Nat.le_refl _
              have hD : zo P mi c ≤ (cRoom P mi me).slots := by
                simp only [zo, cRoom]
                by_cases q : mi = 0
                · rw [if_pos q, if_pos q]; exact zs_le _ _
                · rw [if_neg q, if_neg q]; exact Nat.le_refl _
              exact st_ret X hx hret hlk hw hd hn ⟨⟨rfl, cret_va hw⟩, I.2.1, hA, I.2.2.1, hB⟩ hC hD
            · cases hr
        · split at hr
          · rename_i pc' ls' st' hp
            obtain ⟨L', hL', hLs, st⟩ := pstep_sound X hx hp hd hn hL
            have hlen' : ls'.length = me.ml := by rw [← hL'.1, hLs, hL.1]; exact hlen
            exact Don.step st (ihk p l e s₀ m args below meth cd T locs h0 c _ ls' st' s v s' L' hx hZ hown hnm hret hml hlk hs0 hdec hr X I hL' hlen')
          · cases hr
end Jvm.LM

namespace Jvm.LM
open Sem ClassFile Op Lib Jvm.Stand Jvm.Free Jvm.LawKit Jvm.RoadKit
/-! the law's machine: several objects of the class, and one array of ints that it only reads -/
/-- class name, pool to own static method, pool to the class's method, pool index of the constructor, of the class, number of its fields, constants, methods, room: cells, slots -/
abbrev Lw := String × List (Nat × Nat) × List (Nat × Nat) × Nat × Nat × Nat × List (Nat × Value) × List (Nat × Me) × Nat × Nat
def Lw.nm (Q : Lw) : String := Q.1
def Lw.sx (Q : Lw) : List (Nat × Nat) := Q.2.1
def Lw.vx (Q : Lw) : List (Nat × Nat) := Q.2.2.1
def Lw.ci (Q : Lw) : Nat := Q.2.2.2.1
def Lw.cx (Q : Lw) : Nat := Q.2.2.2.2.1
def Lw.nf (Q : Lw) : Nat := Q.2.2.2.2.2.1
def Lw.kx (Q : Lw) : List (Nat × Value) := Q.2.2.2.2.2.2.1
def Lw.ms (Q : Lw) : List (Nat × Me) := Q.2.2.2.2.2.2.2.1
def Lw.rc (Q : Lw) : Nat := Q.2.2.2.2.2.2.2.2.1
def Lw.rs (Q : Lw) : Nat := Q.2.2.2.2.2.2.2.2.2
/-- the objects, how many are made, whether one more is being made -/
abbrev Wd := (Nat → St) × Nat × Bool
abbrev Sc := Option (Nat × (Nat → Int32))
abbrev Rw := Option (Option Value × Wd)
def nr : List Value → Bool
  | [] => true
  | .int _ :: r => nr r
  | .long _ :: r => nr r
  | _ => false
theorem nr_map {l : List Value} (h : nr l = true) (ρ : Nat → Nat) : l.map (va ρ) = l := by
  induction l with
  | nil => rfl
  | cons v r ih => cases v <;> first | (simp only [nr] at h; simp [va, ih h]; done) | (simp [nr] at h)
theorem nr_nd {l : List Value} (h : nr l = true) : nd l = true := by
  induction l with
  | nil => rfl
  | cons v r ih => cases v <;> first | (simp only [nr] at h; simp [nd, ih h]; done) | (simp [nr] at h)
def uo (w : Nat → St) (o : Nat) (s : St) : Nat → St := fun i => if i = o then s else w i
def lstep {α : Type} (P : Cl) (Q : Lw) (sc : Sc) (mi : Nat) (me : Me) (rt : Option Value → Wd → Option α) (cc : Nat → Nat → List Value → St → Rs) (cl : Nat → List Value → Wd → Rw) (k : Nat → Lv → List Value → Wd → Option α) (i : Instr) (pc : Nat) (ls : Lv) (st : List Value) (w : Wd) : Option α :=
  match i with
  | .iaload => match sc, st with
    | some (n, g), .int j :: .ref 0 :: r => if inb n j then k (pc + 1) ls (.int (g (ix j)) :: r) w else none
    | _, _ => none
  | .arraylength => match sc, st with
    | some (n, _), .ref 0 :: r => k (pc + 1) ls (.int (Int32.ofNat n) :: r) w
    | _, _ => none
  | .ldc x => match asc Q.kx x with | some (.int z) => k (pc + 2) ls (.int z :: st) w | _ => none
  | .ldc2_w x => match asc Q.kx x with | some (.long z) => k (pc + 3) ls (.long z :: st) w | _ => none
  | .new x => if mi = 0 ∧ x = Q.cx ∧ w.2.2 = false ∧ (w.2.1 + 1) * (P.al.length + 1) ≤ Q.rc ∧ (w.2.1 + 1) * (Q.nf + zs P.al P.al.length) ≤ Q.rs then
      k (pc + 3) ls (.ref (w.2.1 + 1) :: st) (uo w.1 w.2.1 s0, w.2.1, true) else none
  | .invokespecial x => match asc P.ms 0 with
    | none => none
    | some me' => match st.drop me'.na with
      | .ref (o + 1) :: r => if x = Q.ci ∧ mi = 0 ∧ o = w.2.1 ∧ w.2.2 = true ∧ me'.rf + 1 ≤ me.rf ∧ cats r + (me'.ml + 11) + me'.rl ≤ me.rl ∧ nr (st.take me'.na) = true ∧ (w.2.1 + 1) * (P.al.length + 1) ≤ Q.rc ∧ (w.2.1 + 1) * (Q.nf + zs P.al P.al.length) ≤ Q.rs then
          (match cc 0 0 (.ref 0 :: (st.take me'.na).reverse) (w.1 o) with
           | some (none, s') => k (pc + 3) ls r (uo w.1 o s', w.2.1 + 1, false)
           | _ => none) else none
      | _ => none
  | .invokevirtual x => match asc Q.vx x with
    | none => none
    | some m' => match asc P.ms m' with
      | none => none
      | some me' => match st.drop me'.na with
        | .ref (o + 1) :: r => if m' ≠ 0 ∧ o < w.2.1 ∧ me'.rf + 1 ≤ me.rf ∧ cats r + (me'.ml + 11) + me'.rl ≤ me.rl ∧ nr (st.take me'.na) = true then
            (match cc m' P.al.length (.ref 0 :: (st.take me'.na).reverse) (w.1 o) with
             | some (none, s') => k (pc + 3) ls r (uo w.1 o s', w.2.1, w.2.2)
             | some (some v, s') => k (pc + 3) ls (v :: r) (uo w.1 o s', w.2.1, w.2.2)
             | none => none) else none
        | _ => none
  | .invokestatic x => match asc Q.sx x with
    | none => none
    | some m' => match asc Q.ms m' with
      | none => none
      | some me' => if m' ≠ 0 ∧ me'.na ≤ st.length ∧ me'.rf + 1 ≤ me.rf ∧ cats (st.drop me'.na) + (me'.ml + 11) + me'.rl ≤ me.rl ∧ nd (st.take me'.na) = true then
          (match cl m' (st.take me'.na).reverse w with
           | some (none, w') => k (pc + 3) ls (st.drop me'.na) w'
           | some (some v, w') => k (pc + 3) ls (v :: st.drop me'.na) w'
           | none => none) else none
  | i => if isRet i = true then (match cret me st i with | some v => rt v w | none => none)
    else match pstep i pc ls st with | some (pc', ls', st') => k pc' ls' st' w | none => none
def lexec (P : Cl) (Q : Lw) (sc : Sc) : Nat → Nat → Me → Nat → Lv → List Value → Wd → Rw
  | 0, _, _, _, _, _, _ => none
  | f + 1, mi, me, pc, ls, st, w => match fetch me.cd pc with
    | none => none
    | some (i, _) => lstep P Q sc mi me (fun v w => some (v, w)) (ccall P f) (fun m' as w => match asc Q.ms m' with | some me' => (if (layA as).length ≤ me'.ml then lexec P Q sc f m' me' 0 (lay as me'.ml) [] w else none) | none => none) (lexec P Q sc f mi me) i pc ls st w
theorem lexec_cnt {P : Cl} {Q : Lw} {sc : Sc} : ∀ f mi me pc ls st w v w', mi ≠ 0 → lexec P Q sc f mi me pc ls st w = some (v, w') → w'.2 = w.2 := by
  intro f
  induction f with
  | zero => intro mi me pc ls st w v w' _ h; cases h
  | succ f ih =>
    intro mi me pc ls st w v w' h0 h
    simp only [lexec] at h
    split at h
    · cases h
    · unfold lstep at h
      split at h
      · split at h
        · split at h
          · exact ih _ _ _ _ _ _ _ _ h0 h
          · cases h
        · cases h
      · split at h
        · exact ih _ _ _ _ _ _ _ _ h0 h
        · cases h
      · split at h
        · exact ih _ _ _ _ _ _ _ _ h0 h
        · cases h
      · split at h
        · exact ih _ _ _ _ _ _ _ _ h0 h
        · cases h
      · split at h
        · rename_i q; exact absurd q.1 h0
        · cases h
      · split at h
        · cases h
        · split at h
          · split at h
            · rename_i q; exact absurd q.2.1 h0
            · cases h
          · cases h
      · split at h
        · cases h
        · split at h
          · cases h
          · split at h
            · split at h
              · split at h
                · exact (ih _ _ _ _ _ _ _ _ h0 h).trans rfl
                · exact (ih _ _ _ _ _ _ _ _ h0 h).trans rfl
                · cases h
              · cases h
            · cases h
      · split at h
        · cases h
        · split at h
          · cases h
          · rename_i me' hme'
            split at h
            · rename_i hg
              dsimp only at h
              rw [hme'] at h
              dsimp only at h
              split at h
              · rename_i w2 hc
                split at hc
                · exact (ih _ _ _ _ _ _ _ _ h0 h).trans (ih _ _ _ _ _ _ _ _ hg.1 hc)
                · cases hc
              · rename_i u w2 hc
                split at hc
                · exact (ih _ _ _ _ _ _ _ _ h0 h).trans (ih _ _ _ _ _ _ _ _ hg.1 hc)
                · cases hc
              · cases h
            · cases h
      · split at h
        · split at h
          · cases h; rfl
          · cases h
        · split at h
          · exact ih _ _ _ _ _ _ _ _ h0 h
          · cases h
def lcall (P : Cl) (Q : Lw) (sc : Sc) (f m' : Nat) (as : List Value) (w : Wd) : Rw := match asc Q.ms m' with | some me' => (if (layA as).length ≤ me'.ml then lexec P Q sc f m' me' 0 (lay as me'.ml) [] w else none) | none => none
def zOf (Q : Lw) (me : Me) : MethodName := ⟨Q.nm, me.nm, me.ds⟩
def LinkL (P : Cl) (Q : Lw) (Z : State) (a0 : Array Value) : Prop :=
  ((Cond.classLink Q.nm Q.cx P.nm).before a0 Z = true ∧ (Cond.instantiable P.nm Q.nf).before a0 Z = true) ∧
  (∀ me, asc P.ms 0 = some me → (Cond.methodLink Q.nm Q.ci (yOf P me)).before a0 Z = true ∧ (Cond.instanceMethod (yOf P me)).before a0 Z = true ∧ me.rt = 0) ∧
  (∀ x m', asc Q.vx x = some m' → ∀ me, asc P.ms m' = some me → (Cond.methodLink Q.nm x (yOf P me)).before a0 Z = true ∧ (Cond.declares (yOf P me)).before a0 Z = true ∧ (Cond.instanceMethod (yOf P me)).before a0 Z = true ∧ (Cond.selects P.nm (yOf P me) (yOf P me)).before a0 Z = true) ∧
  (∀ x m', asc Q.sx x = some m' → ∀ me, asc Q.ms m' = some me → (Cond.methodLink Q.nm x (zOf Q me)).before a0 Z = true ∧ (Cond.static (zOf Q me)).before a0 Z = true ∧ (Cond.initialized Q.nm).before a0 Z = true) ∧
  (∀ x v, asc Q.kx x = some v → match v with
    | .int z => (Cond.constant Q.nm x z).before a0 Z = true
    | .long z => (Cond.constantLong Q.nm x z).before a0 Z = true
    | _ => True) ∧
  (∀ mi me, asc Q.ms mi = some me → mi ≠ 0 → ∃ (bytes : ByteArray) (ps : List FieldType), (Cond.code (zOf Q me) bytes me.ml (retOf me.rt)).before a0 Z = true ∧
    (∀ pc i n, fetch me.cd pc = some (i, n) → decode bytes pc = .ok (i, n) ∧ (isSw i = true ∨ n = ilen i)) ∧ parseMethodDescriptor me.ds = some ⟨ps, retOf me.rt⟩ ∧ ps.length = me.na) ∧
  plainName Q.nm = true ∧ (Q.nm ≠ "java/lang/invoke/MethodHandle" ∧ Q.nm ≠ "java/lang/invoke/VarHandle")
def rho (a n0 K : Nat) : Nat → Nat
  | 0 => a
  | o + 1 => n0 + o * K
def SRep (Z : State) (h : Heap) (a n0 : Nat) (sc : Sc) : Prop :=
  match sc with
  | none => True
  | some (n, g) => a < n0 ∧ ∃ cl : Cell, Arr Z h a cl .int ∧ cl.slots.size = n ∧ ∀ i, i < n → cl.slots[i]? = some (.int (g i))
def LRep (P : Cl) (Z : State) (h : Heap) (a n0 : Nat) (sc : Sc) (w : Wd) : Prop :=
  SRep Z h a n0 sc ∧ (∀ o, o < w.2.1 → HRep P Z h (n0 + o * (P.al.length + 1)) P.al.length (w.1 o)) ∧
  (w.2.2 = true → HRep P Z h (n0 + w.2.1 * (P.al.length + 1)) 0 (w.1 w.2.1)) ∧ h.size = n0 + w.2.1 * (P.al.length + 1) + (if w.2.2 = true then 1 else 0)
def lRoom (Q : Lw) (mi : Nat) (me : Me) : Room := { frames := me.rf, cells := if mi = 0 then Q.rc else 0, slots := if mi = 0 then Q.rs else 0, locals := me.rl }
def QL (P : Cl) (Z : State) (a n0 : Nat) (sc : Sc) (v : Option Value) (w' : Wd) (u : Option Value) (h : Heap) (L : List Loc) : Prop :=
  (u = v ∧ ∀ ρ, u.toList.map (va ρ) = u.toList) ∧ Fr n0 L ∧ LRep P Z h a n0 sc w'
def lco (P : Cl) (mi : Nat) (w : Wd) : Nat := if mi = 0 then w.2.1 * (P.al.length + 1) + (if w.2.2 = true then 1 else 0) else 0
def lzo (P : Cl) (Q : Lw) (mi : Nat) (w : Wd) : Nat := if mi = 0 then w.2.1 * (Q.nf + zs P.al P.al.length) + (if w.2.2 = true then Q.nf else 0) else 0
def LW (P : Cl) (Q : Lw) (sc : Sc) (Z : State) (a n0 f mi : Nat) (me : Me) : Prop :=
  ∀ (p : Program) (l : Launch) (e : Env) (s₀ : State) (m : MethodId) (args : Array Value) (below : List Frame) (meth : Method) (cd : Code) (T : State) (locs : List Loc) (pc : Nat) (ls : Lv) (st : List Value) (w : Wd) (v : Option Value) (w' : Wd) (L : Array Slot),
    p.tables.exec = Jvm.exec → Z.Warmed39 s₀.vm → s₀.vm.findClass Q.nm = some m.cls → meth.sig.returnType = retOf me.rt → cd.maxLocals = me.ml → meth.locks = false → (mi = 0 → s₀.heap.size = n0) →
    (∀ pc i n, fetch me.cd pc = some (i, n) → decode cd.code pc = .ok (i, n) ∧ (isSw i = true ∨ n = ilen i)) →
    lexec P Q sc f mi me pc ls st w = some (v, w') →
    Stand p l e (lRoom Q mi me) s₀ m args below meth cd T locs (lco P mi w) (lzo P Q mi w) → w.2.1 * (P.al.length + 1) + (if w.2.2 = true then 1 else 0) ≤ (lRoom Q 0 me).cells → w.2.1 * (Q.nf + zs P.al P.al.length) + (if w.2.2 = true then Q.nf else 0) ≤ (lRoom Q 0 me).slots →
    LRep P Z T.heap a n0 sc w → Fr n0 locs → LR (rho a n0 (P.al.length + 1)) ls L → ls.length = me.ml →
    Don p e below s₀ (lRoom Q mi me) (QL P Z a n0 sc v w') (T.setTop (mkF m pc L (st.map (va (rho a n0 (P.al.length + 1))))))
theorem met_of_LW {P : Cl} {Q : Lw} {sc : Sc} {Z : State} {a0 : Array Value} (LL : LinkL P Q Z a0) {a n0 f mi : Nat} {me : Me} (hW : LW P Q sc Z a n0 f mi me) (hmi : mi ≠ 0) (l : Launch) {bytes : ByteArray}
    (hdec : ∀ pc i n, fetch me.cd pc = some (i, n) → decode bytes pc = .ok (i, n) ∧ (isSw i = true ∨ n = ilen i))
    {as : List Value} (hd : ∀ v ∈ as, ∀ x, v ≠ .double x) (hlen : (layA as).length ≤ me.ml) {w w' : Wd} {v : Option Value} {h : Heap} (hr : lexec P Q sc f mi me 0 (lay as me.ml) [] w = some (v, w'))
    (hc1 : w.2.1 * (P.al.length + 1) + (if w.2.2 = true then 1 else 0) ≤ Q.rc) (hc2 : w.2.1 * (Q.nf + zs P.al P.al.length) + (if w.2.2 = true then Q.nf else 0) ≤ Q.rs)
    (H : LRep P Z h a n0 sc w) :
    MetFree l (zOf Q me) (head1 [Cond.code (zOf Q me) bytes me.ml (retOf me.rt)] (lRoom Q mi me)) (fun b U => b = (as.map (va (rho a n0 (P.al.length + 1)))).toArray ∧ Z.Warmed39 U.vm ∧ U.heap = h) (fun _ _ _ _ _ => True)
      (fun _ U o U' => ∃ u L, o = .returned u ∧ QL P Z a n0 sc v w' u U'.heap L ∧ FrameEnd U o U' L (lRoom Q mi me).cells (lRoom Q mi me).slots) := by
  refine MetFree.of_bodySF (plainFor_of_name LL.2.2.2.2.2.2.1) hisR ?_
  intro p e s₀ m args below meth cd s₁ Bd hml hP hK
  obtain ⟨rfl, hZ, hh⟩ := hP
  have e0 : s₁.heap = h := by rw [← hh, Bd.state]; rfl
  have X0 : Stand p l e (lRoom Q mi me) s₀ m _ below meth cd s₁ [] 0 0 := Stand.of_body Bd
  have hown : s₀.vm.findClass Q.nm = some m.cls := findClass_of_methodNamed Bd.named
  have hk0 : lco P mi w = 0 := by simp [lco, hmi]
  have hz0 : lzo P Q mi w = 0 := by simp [lzo, hmi]
  have D := hW p l e s₀ m _ below meth cd s₁ [] 0 (lay as me.ml) [] w v w' _ Bd.exec hZ hown Bd.returns hml Bd.notSynchronized (fun q => absurd q hmi)
    (fun pc i n q => by rw [Bd.bytes]; exact hdec pc i n q) hr (by rw [hk0, hz0]; exact X0) (by simpa [lRoom] using hc1) (by simpa [lRoom] using hc2) (by rw [e0]; exact H) (Fr.nil n0) (lay_LR hd hlen) (lay_len hlen)
  obtain ⟨s₂, o, a1, a2, a3, u, L, a4, a5, a6⟩ := D
  exact ⟨s₂, o, a1, a2, a3, u, L, a4, a5, a6⟩
end Jvm.LM

namespace Jvm.LM
open Sem ClassFile Op Lib Jvm.Stand Jvm.Free Jvm.LawKit Jvm.RoadKit
theorem rng {a b K : Nat} (h : a < b) : a * K + K ≤ b * K := by
  have := Nat.mul_le_mul_right K (show a + 1 ≤ b from h)
  rw [Nat.succ_mul] at this; exact this
theorem SRep.congr {Z : State} {h h' : Heap} {a n0 : Nat} {sc : Sc} (H : SRep Z h a n0 sc) (e : ∀ x, x < n0 → h'[x]? = h[x]?) : SRep Z h' a n0 sc := by
  unfold SRep at H ⊢
  split
  · trivial
  · obtain ⟨h1, cl, ⟨q1, q2⟩, q3⟩ := H
    exact ⟨h1, cl, ⟨by rw [e a h1]; exact q1, q2⟩, q3⟩
/-- one object has moved, the others stand -/
theorem LRep.call {P : Cl} {Z : State} {h h' : Heap} {a n0 o : Nat} {sc : Sc} {w : Wd} {s' : St} (H : LRep P Z h a n0 sc w) (ho : o < w.2.1) (K : Kp h h' (n0 + o * (P.al.length + 1)) P.al.length) (hs : h'.size = h.size) (H' : HRep P Z h' (n0 + o * (P.al.length + 1)) P.al.length s') :
    LRep P Z h' a n0 sc (uo w.1 o s', w.2.1, w.2.2) := by
  obtain ⟨h1, h2, h3, h4⟩ := H
  refine ⟨h1.congr fun x hx => K x (Or.inl (by omega)), fun o' ho' => ?_, fun q => ?_, by rw [hs]; exact h4⟩
  · by_cases e : o' = o
    · subst e; simpa [uo] using H'
    · have := (h2 o' ho').congr (h' := h') fun x hx1 hx2 => K x (by
        rcases Nat.lt_or_gt_of_ne e with q | q
        · have := rng (K := P.al.length + 1) q; omega
        · have := rng (K := P.al.length + 1) q; omega)
      simpa [uo, e] using this
  · have e : w.2.1 ≠ o := by omega
    have := (h3 q).congr (h' := h') fun x hx1 hx2 => K x (by have := rng (K := P.al.length + 1) ho; omega)
    simpa [uo, e] using this
theorem ar1 {x k r y : Nat} (e : y = x + (k + 1)) (h : y ≤ r) : x + 1 + k ≤ r := by omega
theorem ar3 {x k y : Nat} (h : y = x + (k + 1)) : y + 0 = x + 1 + k := by omega
theorem ar4 {x f z y : Nat} (h : y = x + (f + z)) : y + 0 = x + f + z := by omega
theorem ar5 {x f z r y : Nat} (e : y = x + (f + z)) (h : y ≤ r) : x + f + z ≤ r := by omega
theorem ar6 {n x k y : Nat} (h : y = x + (k + 1)) : n + x + 1 + k = n + y + 0 := by omega
theorem lwalk {P : Cl} {Q : Lw} {sc : Sc} {Z : State} {a0 : Array Value} (LK : LinkC P Z a0) (LL : LinkL P Q Z a0) {a n0 : Nat} : ∀ f mi me, asc Q.ms mi = some me → LW P Q sc Z a n0 f mi me := by
  intro f
  induction f with
  | zero =>
    intro mi me hme p l e s₀ m args below meth cd T locs pc ls st w v w' L hx hZ hown hret hml hlk hs0 hdec hr
    cases hr
  | succ f ih =>
    intro mi me hme p l e s₀ m args below meth cd T locs pc ls st w v w' L hx hZ hown hret hml hlk hs0 hdec hr X hc1 hc2 I hFr hL hlen
    simp only [lexec] at hr
    split at hr
    · cases hr
    · rename_i i n hf
      obtain ⟨hd, hn⟩ := hdec pc i n hf
      have ihk := ih mi me hme
      have hsize : L.size = cd.maxLocals := by rw [hL.1, hlen, hml]
      unfold lstep at hr
      split at hr
      -- iaload
      · obtain rfl := hn.resolve_left Bool.false_ne_true
        split at hr
        · rename_i N g j r
          split at hr
          · rename_i hin
            obtain ⟨ha, cl, A, hN, hv⟩ : SRep Z T.heap a n0 (some (N, g)) := I.1
            refine Don.step (fun t q => ?_) (ihk p l e s₀ m args below meth cd T locs _ ls (.int (g (ix j)) :: r) w v w' L hx hZ hown hret hml hlk hs0 hdec hr X hc1 hc2 I hFr hL hlen)
            exact X.iaload hx A.1 (State.isArrayOf_alike hZ.alike A.2.1) A.2.2 (by rw [hN]; exact inb_not hin) (hv (ix j) (inb_ix hin)) (g := mkF m pc L (.int j :: .ref a :: r.map (va (rho a n0 (P.al.length + 1))))) rfl rfl hd t q
          · cases hr
        · cases hr
      -- arraylength
      · obtain rfl := hn.resolve_left Bool.false_ne_true
        split at hr
        · rename_i N g r
          obtain ⟨ha, cl, A, hN, hv⟩ : SRep Z T.heap a n0 (some (N, g)) := I.1
          refine Don.step (fun t q => ?_) (ihk p l e s₀ m args below meth cd T locs _ ls (.int (Int32.ofNat N) :: r) w v w' L hx hZ hown hret hml hlk hs0 hdec hr X hc1 hc2 I hFr hL hlen)
          exact X.arraylength hx A.1 (State.isArrayOf_alike hZ.alike A.2.1) (g := mkF m pc L (.ref a :: r.map (va (rho a n0 (P.al.length + 1))))) rfl rfl hd t (by rw [hN]; exact q)
        · cases hr
      -- constants
      · obtain rfl := hn.resolve_left Bool.false_ne_true
        split at hr
        · rename_i z hg
          exact Don.step (fun t q => X.ldcI hx hown (mv hZ (LL.2.2.2.2.1 _ _ hg)) (g := mkF m pc L (st.map (va (rho a n0 (P.al.length + 1))))) rfl hd q) (ihk p l e s₀ m args below meth cd T locs _ ls (.int z :: st) w v w' L hx hZ hown hret hml hlk hs0 hdec hr X hc1 hc2 I hFr hL hlen)
        · cases hr
      · obtain rfl := hn.resolve_left Bool.false_ne_true
        split at hr
        · rename_i z hg
          exact Don.step (fun t q => X.ldc2J hx hown (mv hZ (LL.2.2.2.2.1 _ _ hg)) (g := mkF m pc L (st.map (va (rho a n0 (P.al.length + 1))))) rfl hd q) (ihk p l e s₀ m args below meth cd T locs _ ls (.long z :: st) w v w' L hx hZ hown hret hml hlk hs0 hdec hr X hc1 hc2 I hFr hL hlen)
        · cases hr
      -- new
      · obtain rfl := hn.resolve_left Bool.false_ne_true
        split at hr
        · rename_i hg
          obtain ⟨rfl, rfl, hp, hg1, hg2⟩ := hg
          obtain ⟨os, cnt, pend⟩ := w
          dsimp only at hp hg1 hg2 hr
          subst hp
          have hk : lco P 0 (os, cnt, false) = cnt * (P.al.length + 1) := by simp [lco]
          have hz : lzo P Q 0 (os, cnt, false) = cnt * (Q.nf + zs P.al P.al.length) := by simp [lzo]
          have m1 : (cnt + 1) * (P.al.length + 1) = cnt * (P.al.length + 1) + (P.al.length + 1) := Nat.succ_mul ..
          have m2 : (cnt + 1) * (Q.nf + zs P.al P.al.length) = cnt * (Q.nf + zs P.al P.al.length) + (Q.nf + zs P.al P.al.length) := Nat.succ_mul ..
          rw [hk, hz] at X
          obtain ⟨T', h', X', q1, E, A, D, -, st1⟩ := newO X hx hZ hown LL.1.1 LL.1.2 LK.1.2 rfl (g := mkF m pc L (st.map (va (rho a n0 (P.al.length + 1))))) rfl hd (by simp only [lRoom, if_true]; omega) (by simp only [lRoom, if_true]; omega)
          obtain ⟨i1, i2, i3, i4⟩ := I
          have hsz : T.heap.size = n0 + cnt * (P.al.length + 1) := by simpa using i4
          have hsz' : h'.size = n0 + cnt * (P.al.length + 1) + 1 := by
            have g1 : T'.heap.size ≤ s₀.heap.size + (cnt * (P.al.length + 1) + 1) := X'.heapSize
            have g2 : T.heap.size < Array.size h' := A.lt
            rw [q1, hs0 rfl] at g1
            rw [hsz] at g2
            omega
          have same : ∀ x, x < T.heap.size → h'[x]? = T.heap[x]? := fun x hx => by
            obtain ⟨cc, hcc⟩ : ∃ cc, T.heap[x]? = some cc := ⟨T.heap[x], Array.getElem?_eq_getElem hx⟩
            rw [hcc]; exact E.2 _ _ hcc
          have I' : LRep P Z T'.heap a n0 sc (uo os cnt s0, cnt, true) := by
            rw [q1]
            refine ⟨i1.congr fun x hx => same x (by omega), fun o ho => ?_, fun _ => ?_, by simpa using hsz'⟩
            · have := (i2 o ho).congr (h' := h') fun x hx1 hx2 => same x (by have := rng (K := P.al.length + 1) (show o < cnt from ho); omega)
              simpa [uo, show o ≠ cnt from Nat.ne_of_lt ho] using this
            · simp only [uo, if_true]
              rw [hsz] at A D
              refine ⟨A, fun k fe hk => ?_, fun j tt N hj hc => absurd hc (Nat.not_lt_zero _), fun j i hj => ⟨rfl, rfl⟩, Nat.zero_le _⟩
              have q := D (laid_of LK hk) (LK.2.2.2.1 k fe hk)
              have e2 : Fval (n0 + cnt * (P.al.length + 1)) 0 s0 k fe = defaultValue (fkTy P fe.2.2.1) := by
                simp only [Fval]; split
                · rename_i e3; rw [e3]; rfl
                · rename_i e3; rw [e3]; rfl
                · rename_i e3; rw [e3]; rfl
                · rename_i e3; rw [e3]; rfl
              rw [e2]; exact q
          refine Don.step (fun t q => st1 t ?_) (ihk p l e s₀ m args below meth cd T' locs _ ls (.ref (cnt + 1) :: st) _ v w' L hx hZ hown hret hml hlk hs0 hdec hr (by simpa [lco, lzo] using X') (by simp only [lRoom, if_true]; omega) (by simp only [lRoom, if_true]; omega) I' hFr hL hlen)
          rw [hsz]; exact q
        · cases hr
      -- the constructor
      · obtain rfl := hn.resolve_left Bool.false_ne_true
        split at hr
        · cases hr
        · rename_i me' hme'
          split at hr
          · rename_i o r hst
            split at hr
            · rename_i hg
              obtain ⟨rfl, rfl, hgo, hp, hg1, hg2, hg3, hg4, hg5⟩ := hg
              obtain ⟨os, cnt, pend⟩ := w
              dsimp only at hgo hp hg1 hg2 hr hg4 hg5
              subst hp hgo
              obtain ⟨bytes, ps, hcode, hdec', hpar, hpl⟩ := LK.2.2.2.2.2.2.2.2.1 0 me' hme'
              obtain ⟨w1, w2, hrt⟩ := LL.2.1 me' hme'
              have hcode' := hcode
              rw [hrt] at hcode'
              have hini := LK.2.2.2.2.2.2.2.2.2.2.2.2 me' hme'
              have m1 : (o + 1) * (P.al.length + 1) = o * (P.al.length + 1) + (P.al.length + 1) := Nat.succ_mul ..
              have m2 : (o + 1) * (Q.nf + zs P.al P.al.length) = o * (Q.nf + zs P.al P.al.length) + (Q.nf + zs P.al P.al.length) := Nat.succ_mul ..
              simp only [ccall, hme'] at hr
              by_cases hla : (layA (Value.ref 0 :: (st.take me'.na).reverse)).length ≤ me'.ml
              · rw [if_pos hla] at hr
                cases hcl : cexec P f 0 me' 0 0 (lay (.ref 0 :: (st.take me'.na).reverse) me'.ml) [] (os o) with
                | none => rw [hcl] at hr; cases hr
                | some vs =>
                  obtain ⟨u, s1⟩ := vs
                  rw [hcl] at hr
                  cases u with
                  | some u => cases hr
                  | none =>
                    dsimp only at hr
                    obtain ⟨i1, i2, i3, i4⟩ := I
                    have hsz : T.heap.size = n0 + o * (P.al.length + 1) + 1 := by simpa using i4
                    have hM := met_of_CW LK hme' (cwalk LK (n0 := n0) (adr := n0 + o * (P.al.length + 1)) (Nat.le_add_right _ _) f 0 me' hme') l hdec' (as := .ref 0 :: (st.take me'.na).reverse) (nd_rev (ρ := id) (nr_nd hg3)) hla hcl (fun _ => rfl) (i3 rfl) (fun _ => hsz)
                    have hB := backOf (R := lRoom Q 0 me) (p := p) (e := e) (below := below) (s := s₀) (args := args) (len := 3) (W := cats r) hM hZ hcode LK.1.2 hg1 hg2
                    have hdl : me'.na < st.length := by
                      have := congrArg List.length hst
                      simp at this; omega
                    have hsp : st = st.take me'.na ++ .ref (o + 1) :: r := by rw [← hst, List.take_append_drop]
                    have hrv : ∀ ρ : Nat → Nat, (st.take me'.na).reverse.map (va ρ) = (st.take me'.na).reverse := fun ρ => by rw [List.map_reverse, nr_map hg3]
                    have hsm : st.map (va (rho a n0 (P.al.length + 1))) = ((st.take me'.na).reverse).reverse ++ .ref (n0 + o * (P.al.length + 1)) :: r.map (va (rho a n0 (P.al.length + 1))) := by
                      conv => lhs; rw [hsp]
                      rw [List.map_append, nr_map hg3]; simp [va, rho]
                    have hll : ∀ sig, parseMethodDescriptor (yOf P me').desc = some sig → ((st.take me'.na).reverse).length = sig.parameters.length := lenOf hpar (by simp [hpl]; omega)
                    have hk : lco P 0 (os, o, true) = o * (P.al.length + 1) + 1 := by simp [lco]
                    have hz : lzo P Q 0 (os, o, true) = o * (Q.nf + zs P.al P.al.length) + Q.nf := by simp [lzo]
                    rw [hk, hz] at X
                    have hpre : ∀ vm₁, s₀.WarmedH vm₁ → ((Value.ref (n0 + o * (P.al.length + 1)) :: (st.take me'.na).reverse).toArray = ((Value.ref 0 :: (st.take me'.na).reverse).map (va ((n0 + o * (P.al.length + 1)) + ·))).toArray ∧ (T.setVm vm₁).heap = T.heap ∧ o * (P.al.length + 1) + 1 + (cRoom P 0 me').cells ≤ (lRoom Q 0 me).cells ∧ o * (Q.nf + zs P.al P.al.length) + Q.nf + (cRoom P 0 me').slots ≤ (lRoom Q 0 me).slots) := fun vm₁ _ => by
                      refine ⟨by rw [List.map_cons, hrv]; rfl, rfl, ?_, ?_⟩
                      · show o * (P.al.length + 1) + 1 + P.al.length ≤ Q.rc
                        exact ar1 m1 hg4
                      · show o * (Q.nf + zs P.al P.al.length) + Q.nf + zs P.al P.al.length ≤ Q.rs
                        exact ar5 m2 hg5
                    obtain ⟨v', vm₁, ⟨U, lo, ce, sl⟩, -, X', ⟨Lc, hQ, l1, l2, l3⟩, stp⟩ := X.specialBack hx (y := yOf P me') hini hown (mv hZ w1) (mv hZ w2) (mv hZ hcode') LK.2.2.2.2.2.2.2.2.2.2.2.1 hB (g := mkF m pc L (st.map (va (rho a n0 (P.al.length + 1))))) rfl hsize (Steps.refl _) hll hsm (by show 2 * 0 + _ ≤ _; rw [cats_va]; omega) hd hpre
                    dsimp only [Pt.U, Pt.locs, Pt.cells, Pt.slots] at X' hQ l1 l2 l3 stp
                    subst l1 l2 l3
                    obtain ⟨⟨rfl, -⟩, hF', hH', hK', hS'⟩ := hQ
                    rw [if_pos rfl] at hH' hS'
                    have I' : LRep P Z U.heap a n0 sc (uo os o s1, o + 1, false) := by
                      refine ⟨i1.congr fun x hx => hK' x (Or.inl (by omega)), fun o' ho' => ?_, fun q => by simp at q, by rw [hS']; show n0 + o * (P.al.length + 1) + 1 + P.al.length = n0 + (o + 1) * (P.al.length + 1) + 0; exact ar6 m1⟩
                      by_cases e2 : o' = o
                      · subst e2; simpa [uo] using hH'
                      · have ho2 : o' < o := by have : o' < o + 1 := ho'; omega
                        have := (i2 o' ho2).congr (h' := U.heap) fun x hx1 hx2 => hK' x (by have := rng (K := P.al.length + 1) ho2; omega)
                        simpa [uo, e2] using this
                    refine Don.step (fun t q => stp.trans q) (ihk p l e s₀ m args below meth cd U (locs ++ Lc) _ ls r _ v w' L hx hZ hown hret hml hlk hs0 hdec hr ?_ (by show (o + 1) * (P.al.length + 1) + 0 ≤ Q.rc; omega) (by show (o + 1) * (Q.nf + zs P.al P.al.length) + 0 ≤ Q.rs; omega) I' (hFr.app hF') hL hlen)
                    have h1 : lco P 0 (uo os o s1, o + 1, false) = o * (P.al.length + 1) + 1 + (cRoom P 0 me').cells := by
                      show (o + 1) * (P.al.length + 1) + 0 = o * (P.al.length + 1) + 1 + P.al.length
                      exact ar3 m1
                    have h2 : lzo P Q 0 (uo os o s1, o + 1, false) = o * (Q.nf + zs P.al P.al.length) + Q.nf + (cRoom P 0 me').slots := by
                      show (o + 1) * (Q.nf + zs P.al P.al.length) + 0 = o * (Q.nf + zs P.al P.al.length) + Q.nf + zs P.al P.al.length
                      exact ar4 m2
                    rw [h1, h2]; exact X'
              · rw [if_neg hla] at hr; cases hr
            · cases hr
          · cases hr
      -- a method of the class
      · obtain rfl := hn.resolve_left Bool.false_ne_true
        split at hr
        · cases hr
        · rename_i m' hm'
          split at hr
          · cases hr
          · rename_i me' hme'
            split at hr
            · rename_i o r hst
              split at hr
              · rename_i hg
                obtain ⟨hg0, hgo, hg1, hg2, hg3⟩ := hg
                obtain ⟨bytes, ps, hcode, hdec', hpar, hpl⟩ := LK.2.2.2.2.2.2.2.2.1 m' me' hme'
                obtain ⟨w1, w2, w3, w4⟩ := LL.2.2.1 _ _ hm' me' hme'
                simp only [ccall, hme'] at hr
                by_cases hla : (layA (Value.ref 0 :: (st.take me'.na).reverse)).length ≤ me'.ml
                · rw [if_pos hla] at hr
                  cases hcl : cexec P f m' me' P.al.length 0 (lay (.ref 0 :: (st.take me'.na).reverse) me'.ml) [] (w.1 o) with
                  | none => rw [hcl] at hr; cases hr
                  | some vs =>
                    obtain ⟨u, s1⟩ := vs
                    rw [hcl] at hr
                    have hr' : lexec P Q sc f mi me (pc + 3) ls (u.toList ++ r) (uo w.1 o s1, w.2.1, w.2.2) = some (v, w') := by cases u <;> exact hr
                    have hM := met_of_CW LK hme' (cwalk LK (n0 := n0) (adr := n0 + o * (P.al.length + 1)) (Nat.le_add_right _ _) f m' me' hme') l hdec' (as := .ref 0 :: (st.take me'.na).reverse) (nd_rev (ρ := id) (nr_nd hg3)) hla hcl (fun q => absurd q hg0) (I.2.1 o hgo) (fun q => absurd q hg0)
                    have hB := backOf (R := lRoom Q mi me) (p := p) (e := e) (below := below) (s := s₀) (args := args) (len := 3) (W := cats r) hM hZ hcode LK.1.2 hg1 hg2
                    have hdl : me'.na < st.length := by
                      have := congrArg List.length hst
                      simp at this; omega
                    have hsp : st = st.take me'.na ++ .ref (o + 1) :: r := by rw [← hst, List.take_append_drop]
                    have hrv : ∀ ρ : Nat → Nat, (st.take me'.na).reverse.map (va ρ) = (st.take me'.na).reverse := fun ρ => by rw [List.map_reverse, nr_map hg3]
                    have hsm : st.map (va (rho a n0 (P.al.length + 1))) = ((st.take me'.na).reverse).reverse ++ .ref (n0 + o * (P.al.length + 1)) :: r.map (va (rho a n0 (P.al.length + 1))) := by
                      conv => lhs; rw [hsp]
                      rw [List.map_append, nr_map hg3]; simp [va, rho]
                    have hll : ∀ sig, parseMethodDescriptor (yOf P me').desc = some sig → ((st.take me'.na).reverse).length = sig.parameters.length := lenOf hpar (by simp [hpl]; omega)
                    have hz1 : (cRoom P m' me').cells = 0 := by simp [cRoom, hg0]
                    have hz2 : (cRoom P m' me').slots = 0 := by simp [cRoom, hg0]
                    have hpre : ∀ vm₁, s₀.WarmedH vm₁ → ((Value.ref (n0 + o * (P.al.length + 1)) :: (st.take me'.na).reverse).toArray = ((Value.ref 0 :: (st.take me'.na).reverse).map (va ((n0 + o * (P.al.length + 1)) + ·))).toArray ∧ (T.setVm vm₁).heap = T.heap ∧ lco P mi w + (cRoom P m' me').cells ≤ (lRoom Q mi me).cells ∧ lzo P Q mi w + (cRoom P m' me').slots ≤ (lRoom Q mi me).slots) := fun vm₁ _ => by
                      refine ⟨by rw [List.map_cons, hrv]; rfl, rfl, ?_, ?_⟩
                      · rw [hz1]; simp only [lco, lRoom] at *; split
                        · simpa using hc1
                        · exact Nat.le_refl _
                      · rw [hz2]; simp only [lzo, lRoom] at *; split
                        · simpa using hc2
                        · exact Nat.le_refl _
                    obtain ⟨cq, kq, qa, qb, qc⟩ := isOf hZ rfl (I.2.1 o hgo).1
                    obtain ⟨v', vm₁, ⟨U, lo, ce, sl⟩, -, X', ⟨Lc, hQ, l1, l2, l3⟩, stp⟩ := X.virtualBack hx (y := yOf P me') (z := yOf P me') hown (mv hZ w1) (mv hZ w2) (notFace_of_selects (args := #[]) (mv hZ w4)) (mv hZ w4) (mv hZ w3) LK.2.2.2.2.2.2.2.2.2.2.2.1 hB qa qc (g := mkF m pc L (st.map (va (rho a n0 (P.al.length + 1))))) rfl hsize (Steps.refl _) hll hsm (by show 2 * 0 + _ ≤ _; rw [cats_va]; omega) hd hpre
                    dsimp only [Pt.U, Pt.locs, Pt.cells, Pt.slots] at X' hQ l1 l2 l3 stp
                    subst l1 l2 l3
                    obtain ⟨⟨rfl, hva⟩, hF', hH', hK', hS'⟩ := hQ
                    rw [if_neg hg0] at hH' hS'
                    rw [hz1, hz2] at X'
                    refine Don.step (fun t q => stp.trans ?_) (ihk p l e s₀ m args below meth cd U (locs ++ Lc) _ ls (v'.toList ++ r) _ v w' L hx hZ hown hret hml hlk hs0 hdec hr' X' hc1 hc2 (I.call hgo hK' hS' hH') (hFr.app hF') hL hlen)
                    rw [List.map_append, hva] at q; exact q
                · rw [if_neg hla] at hr; cases hr
              · cases hr
            · cases hr
      -- a static method of the law
      · obtain rfl := hn.resolve_left Bool.false_ne_true
        split at hr
        · cases hr
        · rename_i m' hm'
          split at hr
          · cases hr
          · rename_i me' hme'
            split at hr
            · rename_i hg
              obtain ⟨hg0, hgn, hg1, hg2, hg3⟩ := hg
              obtain ⟨bytes, ps, hcode, hdec', hpar, hpl⟩ := LL.2.2.2.2.2.1 m' me' hme' hg0
              obtain ⟨w1, w2, w3⟩ := LL.2.2.2.1 _ _ hm' me' hme'
              dsimp only at hr
              rw [hme'] at hr
              dsimp only at hr
              by_cases hla : (layA (st.take me'.na).reverse).length ≤ me'.ml
              · rw [if_pos hla] at hr
                cases hcl : lexec P Q sc f m' me' 0 (lay (st.take me'.na).reverse me'.ml) [] w with
                | none => rw [hcl] at hr; cases hr
                | some vs =>
                  obtain ⟨u, w2'⟩ := vs
                  rw [hcl] at hr
                  have hr' : lexec P Q sc f mi me (pc + 3) ls (u.toList ++ st.drop me'.na) w2' = some (v, w') := by cases u <;> exact hr
                  have hndv : ∀ v ∈ (st.take me'.na).reverse, ∀ x, v ≠ .double x := fun v hv x e => nd_spec hg3 v (List.mem_reverse.mp hv) x e
                  have hM := met_of_LW LL (ih m' me' hme') hg0 l hdec' (as := (st.take me'.na).reverse) hndv hla hcl (by simpa [lRoom] using hc1) (by simpa [lRoom] using hc2) I
                  have hB := backOf (R := lRoom Q mi me) (p := p) (e := e) (below := below) (s := s₀) (args := args) (len := 3) (W := cats (st.drop me'.na)) hM hZ hcode w3 hg1 hg2
                  have hsm : st.map (va (rho a n0 (P.al.length + 1))) = (((st.take me'.na).reverse).map (va (rho a n0 (P.al.length + 1)))).reverse ++ (st.drop me'.na).map (va (rho a n0 (P.al.length + 1))) := by
                    conv => lhs; rw [← List.take_append_drop me'.na st]
                    simp
                  have hll : ∀ sig, parseMethodDescriptor (zOf Q me').desc = some sig → (((st.take me'.na).reverse).map (va (rho a n0 (P.al.length + 1)))).length = sig.parameters.length := lenOf hpar (by simp [hpl]; omega)
                  have hz1 : (lRoom Q m' me').cells = 0 := by simp [lRoom, hg0]
                  have hz2 : (lRoom Q m' me').slots = 0 := by simp [lRoom, hg0]
                  have hpre : ∀ vm₁, s₀.WarmedH vm₁ → ((((st.take me'.na).reverse).map (va (rho a n0 (P.al.length + 1)))).toArray = (((st.take me'.na).reverse).map (va (rho a n0 (P.al.length + 1)))).toArray ∧ (T.setVm vm₁).heap = T.heap ∧ lco P mi w + (lRoom Q m' me').cells ≤ (lRoom Q mi me).cells ∧ lzo P Q mi w + (lRoom Q m' me').slots ≤ (lRoom Q mi me).slots) := fun vm₁ _ => by
                    refine ⟨rfl, rfl, ?_, ?_⟩
                    · rw [hz1]; simp only [lco, lRoom] at *; split
                      · simpa using hc1
                      · exact Nat.le_refl _
                    · rw [hz2]; simp only [lzo, lRoom] at *; split
                      · simpa using hc2
                      · exact Nat.le_refl _
                  obtain ⟨v', vm₁, ⟨U, lo, ce, sl⟩, -, X', ⟨Lc, hQ, l1, l2, l3⟩, stp⟩ := Jvm.LawKit.callS X hx (y := zOf Q me') hown (mv hZ w1) (mv hZ w2) (mv hZ w3) (mv hZ hcode) LL.2.2.2.2.2.2.2 hB (g := mkF m pc L (st.map (va (rho a n0 (P.al.length + 1))))) rfl hsize hll hsm (by show 2 * 0 + _ ≤ _; rw [cats_va]; omega) hd hpre
                  dsimp only [Pt.U, Pt.locs, Pt.cells, Pt.slots] at X' hQ l1 l2 l3 stp
                  subst l1 l2 l3
                  obtain ⟨⟨rfl, hva⟩, hF', hI'⟩ := hQ
                  rw [hz1, hz2] at X'
                  have hcn := lexec_cnt _ _ _ _ _ _ _ _ _ hg0 hcl
                  have e1 : lco P mi w2' = lco P mi w := by simp only [lco, hcn]
                  have e2 : lzo P Q mi w2' = lzo P Q mi w := by simp only [lzo, hcn]
                  refine Don.step (fun t q => stp t ?_) (ihk p l e s₀ m args below meth cd U (locs ++ Lc) _ ls (v'.toList ++ st.drop me'.na) _ v w' L hx hZ hown hret hml hlk hs0 hdec hr' (by rw [e1, e2]; exact X') (by rw [hcn]; exact hc1) (by rw [hcn]; exact hc2) hI' (hFr.app hF') hL hlen)
                  rw [List.map_append, hva] at q; exact q
              · rw [if_neg hla] at hr; cases hr
            · cases hr
      -- the rest
      · split at hr
        · split at hr
          · rename_i u hu
            cases hr
            refine st_ret X hx hret hlk hu hd hn ⟨⟨rfl, cret_va hu⟩, hFr, I⟩ ?_ ?_
            · simp only [lco, lRoom] at *; split
              · simpa using hc1
              · exact Nat.le_refl _
            · simp only [lzo, lRoom] at *; split
              · simpa using hc2
              · exact Nat.le_refl _
          · cases hr
        · split at hr
          · rename_i pc' ls' st' hp
            obtain ⟨L', hL', hLs, st⟩ := pstep_sound X hx hp hd hn hL
            have hlen' : ls'.length = me.ml := by rw [← hL'.1, hLs, hL.1]; exact hlen
            exact Don.step st (ihk p l e s₀ m args below meth cd T locs _ ls' st' w v w' L' hx hZ hown hret hml hlk hs0 hdec hr X hc1 hc2 I hFr hL' hlen')
          · cases hr
/-- the law as a whole: what the machine returns, the program returns -/
theorem law_met {P : Cl} {Q : Lw} {sc : Sc} {Z : State} {a0 : Array Value} (LK : LinkC P Z a0) (LL : LinkL P Q Z a0) {a f : Nat} {me : Me} (hme : asc Q.ms 0 = some me) (l : Launch) {bytes : ByteArray} {ws : List Cond}
    (hdec : ∀ pc i n, fetch me.cd pc = some (i, n) → decode bytes pc = .ok (i, n) ∧ (isSw i = true ∨ n = ilen i))
    {as : List Value} (hnd : nd as = true) (hlen : (layA as).length ≤ me.ml) {v : Option Value} {w' : Wd} {h : Heap} (hr : lexec P Q sc f 0 me 0 (lay as me.ml) [] (fun _ => s0, 0, false) = some (v, w')) (hS : SRep Z h a h.size sc) :
    MetFree l (zOf Q me) (head1 (Cond.code (zOf Q me) bytes me.ml (retOf me.rt) :: ws) (lRoom Q 0 me)) (fun b U => b = (as.map (va (rho a h.size (P.al.length + 1)))).toArray ∧ Z.Warmed39 U.vm ∧ U.heap = h) (fun _ _ _ _ _ => True)
      (fun _ U o U' => ∃ u L, o = .returned u ∧ (u = v ∧ Fr h.size L) ∧ FrameEnd U o U' L Q.rc Q.rs) := by
  refine MetFree.of_bodySF (plainFor_of_name LL.2.2.2.2.2.2.1) hisR ?_
  intro p e s₀ m args below meth cd s₁ Bd hml hP hK
  obtain ⟨rfl, hZ, hh⟩ := hP
  have e0 : s₁.heap = h := by rw [← hh, Bd.state]; rfl
  have X0 : Stand p l e (lRoom Q 0 me) s₀ m _ below meth cd s₁ [] 0 0 := Stand.of_body Bd
  have hown : s₀.vm.findClass Q.nm = some m.cls := findClass_of_methodNamed Bd.named
  have hk0 : lco P 0 (fun _ => s0, 0, false) = 0 := by simp [lco]
  have hz0 : lzo P Q 0 (fun _ => s0, 0, false) = 0 := by simp [lzo]
  have D := lwalk LK LL (sc := sc) (a := a) (n0 := h.size) f 0 me hme p l e s₀ m _ below meth cd s₁ [] 0 (lay as me.ml) [] (fun _ => s0, 0, false) v w' _ Bd.exec hZ hown Bd.returns hml Bd.notSynchronized (fun _ => by rw [hh])
    (fun pc i n q => by rw [Bd.bytes]; exact hdec pc i n q) hr (by rw [hk0, hz0]; exact X0) (by simp) (by simp) (by
      rw [e0]; exact ⟨hS, fun o ho => absurd ho (Nat.not_lt_zero _), fun q => by simp at q, by simp⟩) (Fr.nil _) (lay_LR (nd_spec hnd) hlen) (lay_len hlen)
  obtain ⟨s₂, o, a1, a2, a3, u, L, a4, a5, a6⟩ := D
  refine ⟨s₂, o, a1, a2, a3, u, L, a4, ⟨a5.1.1, a5.2.1⟩, ?_⟩
  simpa [lRoom] using a6
end Jvm.LM

namespace Jvm.LM
open Sem ClassFile Op Lib Jvm.Stand Jvm.Free Jvm.LawKit Jvm.RoadKit
/-! what a run of the machine comes to -/
theorem cstep_mono {α : Type} {P : Cl} {mi : Nat} {me : Me} {rt : Option Value → St → Option α} {cl cl' : Nat → Nat → List Value → St → Rs} {k k' : Nat → Nat → Lv → List Value → St → Option α} {i : Instr} {c pc : Nat} {ls : Lv} {st : List Value} {s : St} {r : α}
    (hcl : ∀ m c as s r, cl m c as s = some r → cl' m c as s = some r) (hk : ∀ c pc ls st s r, k c pc ls st s = some r → k' c pc ls st s = some r) (h : cstep P mi me rt cl k i c pc ls st s = some r) : cstep P mi me rt cl' k' i c pc ls st s = some r := by
  unfold cstep at h ⊢
  split at h
  all_goals (try dsimp only)
  · split at h
    · split at h
      · exact hk _ _ _ _ _ _ h
      · cases h
    · cases h
  · split at h
    · split at h
      · exact hk _ _ _ _ _ _ h
      · cases h
    · cases h
  · split at h
    · exact hk _ _ _ _ _ _ h
    · cases h
  · split at h
    · exact hk _ _ _ _ _ _ h
    · cases h
  · split at h
    · exact hk _ _ _ _ _ _ h
    · cases h
  · split at h
    · exact hk _ _ _ _ _ _ h
    · cases h
  · split at h
    · exact hk _ _ _ _ _ _ h
    · cases h
  · split at h
    · exact hk _ _ _ _ _ _ h
    · cases h
  · split at h
    · rename_i q; rw [if_pos q]; exact hk _ _ _ _ _ _ h
    · cases h
  · split at h
    · exact hk _ _ _ _ _ _ h
    · cases h
  · split at h
    · exact hk _ _ _ _ _ _ h
    · cases h
  · split at h
    · split at h
      · rename_i q; rw [if_pos q]; exact hk _ _ _ _ _ _ h
      · cases h
    · cases h
  · split at h
    · cases h
    · rename_i m' hm'
      split at h
      · cases h
      · rename_i me' hme'
        split at h
        · rename_i r0 hst
          split at h
          · rename_i q
            rw [if_pos q]
            split at h
            · rename_i s1 hc; rw [hcl _ _ _ _ _ hc]; exact hk _ _ _ _ _ _ h
            · rename_i v1 s1 hc; rw [hcl _ _ _ _ _ hc]; exact hk _ _ _ _ _ _ h
            · cases h
          · cases h
        · cases h
  · split at h
    · rename_i q; rw [if_pos q]; exact h
    · rename_i q; rw [if_neg q]
      split at h
      · exact hk _ _ _ _ _ _ h
      · cases h
theorem cexec_succ {P : Cl} : ∀ f mi me c pc ls st s r, cexec P f mi me c pc ls st s = some r → cexec P (f + 1) mi me c pc ls st s = some r := by
  intro f
  induction f with
  | zero => intro mi me c pc ls st s r h; cases h
  | succ f ih =>
    intro mi me c pc ls st s r h
    rw [cexec] at h ⊢
    split at h
    · cases h
    · refine cstep_mono (fun m c as s r h => ?_) (fun c pc ls st s r h => ih _ _ _ _ _ _ _ _ h) h
      split at h
      · split at h
        · rename_i q; rw [if_pos q]; exact ih _ _ _ _ _ _ _ _ h
        · cases h
      · cases h
theorem cexec_le {P : Cl} {f g mi : Nat} {me : Me} {c pc : Nat} {ls : Lv} {st : List Value} {s : St} {r : Option Value × St} (hfg : f ≤ g) (h : cexec P f mi me c pc ls st s = some r) : cexec P g mi me c pc ls st s = some r := by
  obtain ⟨d, rfl⟩ := Nat.le.dest hfg
  induction d with
  | zero => exact h
  | succ d ih => exact cexec_succ _ _ _ _ _ _ _ _ _ (ih (Nat.le_add_right _ _))
theorem ccall_le {P : Cl} {f g m' c : Nat} {as : List Value} {s : St} {r : Option Value × St} (hfg : f ≤ g) (h : ccall P f m' c as s = some r) : ccall P g m' c as s = some r := by
  unfold ccall at h ⊢
  split at h
  · split at h
    · rename_i q; rw [if_pos q]; exact cexec_le hfg h
    · cases h
  · cases h
def wpc (P : Cl) (mi : Nat) (me : Me) (c pc : Nat) (ls : Lv) (st : List Value) (s : St) (Q : Option Value → St → Prop) : Prop := ∃ f v s', cexec P f mi me c pc ls st s = some (v, s') ∧ Q v s'
def cal (P : Cl) (m' c : Nat) (as : List Value) (s : St) (Q : Option Value → St → Prop) : Prop := ∃ f v s', ccall P f m' c as s = some (v, s') ∧ Q v s'
def calI (P : Cl) (m' c : Nat) (as : List Value) (s : St) (Q : Int32 → St → Prop) : Prop := cal P m' c as s fun r s' => ∃ v, r = some (.int v) ∧ Q v s'
def calL (P : Cl) (m' c : Nat) (as : List Value) (s : St) (Q : Int64 → St → Prop) : Prop := cal P m' c as s fun r s' => ∃ v, r = some (.long v) ∧ Q v s'
def calV (P : Cl) (m' c : Nat) (as : List Value) (s : St) (Q : St → Prop) : Prop := cal P m' c as s fun r s' => r = none ∧ Q s'
theorem cstep_nat {α : Type} {P : Cl} {mi : Nat} {me : Me} {k : Nat → Nat → Lv → List Value → St → Option α} {i : Instr} {c pc : Nat} {ls : Lv} {st : List Value} {s : St} {x : α}
    (h : cstep P mi me (fun _ _ => none) (fun _ _ _ _ => none) k i c pc ls st s = some x) : ∃ c' pc' ls' st' s', k c' pc' ls' st' s' = some x ∧ ∀ (β : Type) (rt : Option Value → St → Option β) cl (k' : Nat → Nat → Lv → List Value → St → Option β), cstep P mi me rt cl k' i c pc ls st s = k' c' pc' ls' st' s' := by
  unfold cstep at h
  split at h
  · split at h
    · split at h
      · rename_i q; exact ⟨_, _, _, _, _, h, fun β rt cl k' => by simp only [cstep, q]⟩
      · cases h
    · cases h
  · split at h
    · split at h
      · rename_i q; exact ⟨_, _, _, _, _, h, fun β rt cl k' => by simp only [cstep, q]⟩
      · cases h
    · cases h
  · split at h
    · rename_i q; exact ⟨_, _, _, _, _, h, fun β rt cl k' => by simp only [cstep, q]⟩
    · cases h
  · split at h
    · rename_i q; exact ⟨_, _, _, _, _, h, fun β rt cl k' => by simp only [cstep, q]⟩
    · cases h
  · split at h
    · rename_i q; exact ⟨_, _, _, _, _, h, fun β rt cl k' => by simp only [cstep, q]⟩
    · cases h
  · split at h
    · rename_i q; exact ⟨_, _, _, _, _, h, fun β rt cl k' => by simp only [cstep, q]⟩
    · cases h
  · split at h
    · rename_i q; exact ⟨_, _, _, _, _, h, fun β rt cl k' => by simp only [cstep, q]⟩
    · cases h
  · split at h
    · rename_i q; exact ⟨_, _, _, _, _, h, fun β rt cl k' => by simp only [cstep, q]⟩
    · cases h
  · split at h
    · rename_i q; exact ⟨_, _, _, _, _, h, fun β rt cl k' => by simp only [cstep]; rw [if_pos q]⟩
    · cases h
  · split at h
    · rename_i q; exact ⟨_, _, _, _, _, h, fun β rt cl k' => by simp only [cstep, q]⟩
    · cases h
  · split at h
    · rename_i q; exact ⟨_, _, _, _, _, h, fun β rt cl k' => by simp only [cstep, q]⟩
    · cases h
  · split at h
    · split at h
      · rename_i q; exact ⟨_, _, _, _, _, h, fun β rt cl k' => by simp only [cstep]; rw [if_pos q]⟩
      · cases h
    · cases h
  · split at h
    · cases h
    · split at h
      · cases h
      · split at h
        · split at h
          · cases h
          · cases h
        · cases h
  · rename_i n1 n2 n3 n4 n5 n6 n7 n8 n9 n10 n11 n12 n13
    split at h
    · split at h
      · cases h
      · split at h <;> cases h
    · rename_i hr
      split at h
      · rename_i pc' ls' st' hp
        refine ⟨_, _, _, _, _, h, fun β rt cl k' => ?_⟩
        unfold cstep
        split <;> first | (exfalso; first | exact n1 _ rfl | exact n2 _ rfl | exact n3 rfl | exact n4 rfl | exact n5 rfl | exact n6 rfl | exact n7 rfl | exact n8 rfl | exact n9 _ rfl | exact n10 _ rfl | exact n11 _ rfl | exact n12 _ rfl | exact n13 _ rfl) | skip
        rw [if_neg hr, hp]
      · cases h
def csl (P : Cl) (mi : Nat) (me : Me) : Nat → Nat → Nat → Lv → List Value → St → Option (Nat × Nat × Lv × List Value × St)
  | 0, c, pc, ls, st, s => some (c, pc, ls, st, s)
  | n + 1, c, pc, ls, st, s => match fetch me.cd pc with
    | none => none
    | some (i, _) => cstep P mi me (fun _ _ => none) (fun _ _ _ _ => none) (csl P mi me n) i c pc ls st s
theorem wpc_one {P : Cl} {mi : Nat} {me : Me} {c pc c' pc' : Nat} {ls ls' : Lv} {st st' : List Value} {s s' : St} {Q : Option Value → St → Prop} {i : Instr} {n : Nat} (hf : fetch me.cd pc = some (i, n))
    (h : ∀ (rt : Option Value → St → Rs) cl (k : Nat → Nat → Lv → List Value → St → Rs), cstep P mi me rt cl k i c pc ls st s = k c' pc' ls' st' s') (hq : wpc P mi me c' pc' ls' st' s' Q) : wpc P mi me c pc ls st s Q := by
  obtain ⟨f, v, s2, h1, h2⟩ := hq
  refine ⟨f + 1, v, s2, ?_, h2⟩
  rw [cexec, hf]; dsimp only; rw [h]; exact h1
theorem wpc_sl {P : Cl} {mi : Nat} {me : Me} {Q : Option Value → St → Prop} : ∀ {n c pc c' pc' : Nat} {ls ls' : Lv} {st st' : List Value} {s s' : St}, csl P mi me n c pc ls st s = some (c', pc', ls', st', s') → wpc P mi me c' pc' ls' st' s' Q → wpc P mi me c pc ls st s Q := by
  intro n
  induction n with
  | zero => intro c pc c' pc' ls ls' st st' s s' h hq; cases h; exact hq
  | succ n ih =>
    intro c pc c' pc' ls ls' st st' s s' h hq
    simp only [csl] at h
    split at h
    · cases h
    · rename_i i m hf
      obtain ⟨c1, pc1, ls1, st1, s1, h1, h2⟩ := cstep_nat h
      exact wpc_one hf (fun rt cl k => h2 _ rt cl k) (ih h1 hq)
theorem wpc_ret {P : Cl} {mi : Nat} {me : Me} {c pc : Nat} {ls : Lv} {st : List Value} {s : St} {Q : Option Value → St → Prop} {i : Instr} {n : Nat} {v : Option Value} (hf : fetch me.cd pc = some (i, n)) (hr : isRet i = true) (hc : mi = 0 → c = P.al.length) (h : cret me st i = some v) (hq : Q v s) : wpc P mi me c pc ls st s Q := by
  refine ⟨1, v, s, ?_, hq⟩
  rw [cexec, hf]; dsimp only
  have hc' : ¬ (mi = 0 ∧ c ≠ P.al.length) := fun q => q.2 (hc q.1)
  cases i <;> first | (cases hr; done) | (simp only [cstep]; rw [if_pos hr, if_neg hc', h])
theorem wpc_if {P : Cl} {mi : Nat} {me : Me} {c pc a b : Nat} {ls : Lv} {r : List Value} {s : St} {Q : Option Value → St → Prop} {cd : ClassFile.Cond} {o : Int} {n : Nat} {x : Int32} (hf : fetch me.cd pc = some (.ifCond cd o, n)) (ho : 0 ≤ (pc : Int) + o) (ha : jmp pc o = a) (hb : pc + 3 = b)
    (hq : wpc P mi me c (br cd x 0 a b) ls r s Q) : wpc P mi me c pc ls (.int x :: r) s Q := by
  subst ha hb
  refine wpc_one hf (fun rt cl k => ?_) hq
  show (match pstep (.ifCond cd o) pc ls (.int x :: r) with | some (pc', ls', st') => k c pc' ls' st' s | none => none) = _
  simp only [pstep, qstep]; rw [if_pos ho]
theorem wpc_icmp {P : Cl} {mi : Nat} {me : Me} {c pc a b : Nat} {ls : Lv} {r : List Value} {s : St} {Q : Option Value → St → Prop} {cd : ClassFile.Cond} {o : Int} {n : Nat} {x y : Int32} (hf : fetch me.cd pc = some (.if_icmp cd o, n)) (ho : 0 ≤ (pc : Int) + o) (ha : jmp pc o = a) (hb : pc + 3 = b)
    (hq : wpc P mi me c (br cd x y a b) ls r s Q) : wpc P mi me c pc ls (.int y :: .int x :: r) s Q := by
  subst ha hb
  refine wpc_one hf (fun rt cl k => ?_) hq
  show (match pstep (.if_icmp cd o) pc ls (.int y :: .int x :: r) with | some (pc', ls', st') => k c pc' ls' st' s | none => none) = _
  simp only [pstep, qstep]; rw [if_pos ho]
/-- the two roads of a branch -/
theorem wpc_br {P : Cl} {mi : Nat} {me : Me} {c a b : Nat} {ls : Lv} {st : List Value} {s : St} {Q : Option Value → St → Prop} {p : Prop} [Decidable p] (h : (p → wpc P mi me c a ls st s Q) ∧ (¬ p → wpc P mi me c b ls st s Q)) : wpc P mi me c (if p then a else b) ls st s Q := by
  by_cases hp : p
  · rw [if_pos hp]; exact h.1 hp
  · rw [if_neg hp]; exact h.2 hp
theorem wpc_lda {P : Cl} {mi : Nat} {me : Me} {c pc a tt N : Nat} {ls : Lv} {r : List Value} {s : St} {Q : Option Value → St → Prop} {i : Instr} {n : Nat} {j : Int32} (hf : fetch me.cd pc = some (i, n)) (hi : (tt = 0 ∧ i = .iaload) ∨ (tt = 1 ∧ i = .baload) ∨ (tt = 2 ∧ i = .laload)) (ha : P.al[a]? = some (tt, N)) (hac : a < c)
    (hj : inb N j) (hq : wpc P mi me c (pc + 1) ls (elv tt s (a + 1) (ix j) :: r) s Q) : wpc P mi me c pc ls (.int j :: .ref (a + 1) :: r) s Q := by
  have hl : lda P tt c (.int j :: .ref (a + 1) :: r) s = some (elv tt s (a + 1) (ix j) :: r) := by
    simp only [lda, ha]; rw [if_pos ⟨trivial, hac⟩, if_pos hj]; rfl
  refine wpc_one hf (fun rt cl k => ?_) hq
  rcases hi with ⟨rfl, rfl⟩ | ⟨rfl, rfl⟩ | ⟨rfl, rfl⟩ <;> simp only [cstep, hl]
theorem wpc_sta {P : Cl} {mi : Nat} {me : Me} {c pc a tt N : Nat} {ls : Lv} {r : List Value} {s s' : St} {Q : Option Value → St → Prop} {i : Instr} {n : Nat} {j : Int32} {v : Value} (hf : fetch me.cd pc = some (i, n)) (hi : (tt = 0 ∧ i = .iastore ∧ ∃ z, v = .int z ∧ s' = sI s (a + 1) (ix j) z) ∨ (tt = 1 ∧ i = .bastore ∧ ∃ z, v = .int z ∧ s' = sI s (a + 1) (ix j) (z &&& 1)) ∨ (tt = 2 ∧ i = .lastore ∧ ∃ z, v = .long z ∧ s' = sL s (a + 1) (ix j) z)) (ha : P.al[a]? = some (tt, N)) (hac : a < c)
    (hj : inb N j) (hq : wpc P mi me c (pc + 1) ls r s' Q) : wpc P mi me c pc ls (v :: .int j :: .ref (a + 1) :: r) s Q := by
  have hl : sta P tt c (v :: .int j :: .ref (a + 1) :: r) s = some (r, s') := by
    simp only [sta, ha]; rw [if_pos ⟨trivial, hac⟩, if_pos hj]
    rcases hi with ⟨rfl, -, z, rfl, rfl⟩ | ⟨rfl, -, z, rfl, rfl⟩ | ⟨rfl, -, z, rfl, rfl⟩ <;> rfl
  refine wpc_one hf (fun rt cl k => ?_) hq
  rcases hi with ⟨rfl, rfl, -⟩ | ⟨rfl, rfl, -⟩ | ⟨rfl, rfl, -⟩ <;> simp only [cstep, hl]
theorem wpc_call {P : Cl} {mi : Nat} {me me' : Me} {c pc x m' : Nat} {ls : Lv} {st r as : List Value} {s : St} {Q : Option Value → St → Prop} {n : Nat} (hf : fetch me.cd pc = some (.invokevirtual x, n)) (hm : asc P.mx x = some m') (hme : asc P.ms m' = some me') (hst : st.drop me'.na = .ref 0 :: r) (has : (st.take me'.na).reverse = as)
    (hg : m' ≠ 0 ∧ me'.rf + 1 ≤ me.rf ∧ cats r + (me'.ml + 11) + me'.rl ≤ me.rl ∧ nd (st.take me'.na) = true)
    (hq : cal P m' c (.ref 0 :: as) s fun v s' => wpc P mi me c (pc + 3) ls (v.toList ++ r) s' Q) : wpc P mi me c pc ls st s Q := by
  subst has
  obtain ⟨f1, v, s1, h1, f2, v2, s2, h2, h3⟩ := hq
  refine ⟨max f1 f2 + 1, v2, s2, ?_, h3⟩
  have h1' := ccall_le (Nat.le_max_left f1 f2) h1
  have h2' := cexec_le (Nat.le_max_right f1 f2) h2
  rw [cexec, hf]; dsimp only
  simp only [cstep, hm, hme, hst]
  rw [if_pos hg]
  simp only [ccall, hme] at h1'
  rw [h1']
  cases v <;> exact h2'
theorem cal_of {P : Cl} {m' c : Nat} {as : List Value} {s : St} {Q : Option Value → St → Prop} {me : Me} {ls : Lv} (hme : asc P.ms m' = some me) (hl : (layA as).length ≤ me.ml) (hls : lay as me.ml = ls) (h : wpc P m' me c 0 ls [] s Q) : cal P m' c as s Q := by
  subst hls
  obtain ⟨f, v, s', h1, h2⟩ := h
  refine ⟨f, v, s', ?_, h2⟩
  simp only [ccall, hme]; rw [if_pos hl]; exact h1
theorem cal.mono {P : Cl} {m' c : Nat} {as : List Value} {s : St} {Q Q' : Option Value → St → Prop} (h : cal P m' c as s Q) (hq : ∀ v s', Q v s' → Q' v s') : cal P m' c as s Q' := by
  obtain ⟨f, v, s', h1, h2⟩ := h; exact ⟨f, v, s', h1, hq _ _ h2⟩
theorem calI.mono {P : Cl} {m' c : Nat} {as : List Value} {s : St} {Q Q' : Int32 → St → Prop} (h : calI P m' c as s Q) (hq : ∀ v s', Q v s' → Q' v s') : calI P m' c as s Q' := cal.mono h fun _ _ ⟨v, e, q⟩ => ⟨v, e, hq _ _ q⟩
theorem calL.mono {P : Cl} {m' c : Nat} {as : List Value} {s : St} {Q Q' : Int64 → St → Prop} (h : calL P m' c as s Q) (hq : ∀ v s', Q v s' → Q' v s') : calL P m' c as s Q' := cal.mono h fun _ _ ⟨v, e, q⟩ => ⟨v, e, hq _ _ q⟩
theorem calV.mono {P : Cl} {m' c : Nat} {as : List Value} {s : St} {Q Q' : St → Prop} (h : calV P m' c as s Q) (hq : ∀ s', Q s' → Q' s') : calV P m' c as s Q' := cal.mono h fun _ _ ⟨e, q⟩ => ⟨e, hq _ q⟩
theorem wpc.mono {P : Cl} {mi : Nat} {me : Me} {c pc : Nat} {ls : Lv} {st : List Value} {s : St} {Q Q' : Option Value → St → Prop} (h : wpc P mi me c pc ls st s Q) (hq : ∀ v s', Q v s' → Q' v s') : wpc P mi me c pc ls st s Q' := by
  obtain ⟨f, v, s', h1, h2⟩ := h; exact ⟨f, v, s', h1, hq _ _ h2⟩
theorem wpc_callI {P : Cl} {mi : Nat} {me me' : Me} {c pc x m' : Nat} {ls : Lv} {st r as : List Value} {s : St} {Q : Option Value → St → Prop} {n : Nat} (hf : fetch me.cd pc = some (.invokevirtual x, n)) (hm : asc P.mx x = some m') (hme : asc P.ms m' = some me') (hst : st.drop me'.na = .ref 0 :: r) (has : (st.take me'.na).reverse = as)
    (hg : m' ≠ 0 ∧ me'.rf + 1 ≤ me.rf ∧ cats r + (me'.ml + 11) + me'.rl ≤ me.rl ∧ nd (st.take me'.na) = true)
    (hq : calI P m' c (.ref 0 :: as) s fun v s' => wpc P mi me c (pc + 3) ls (.int v :: r) s' Q) : wpc P mi me c pc ls st s Q :=
  wpc_call hf hm hme hst has hg (cal.mono hq fun _ _ ⟨v, e, q⟩ => by subst e; exact q)
theorem wpc_callL {P : Cl} {mi : Nat} {me me' : Me} {c pc x m' : Nat} {ls : Lv} {st r as : List Value} {s : St} {Q : Option Value → St → Prop} {n : Nat} (hf : fetch me.cd pc = some (.invokevirtual x, n)) (hm : asc P.mx x = some m') (hme : asc P.ms m' = some me') (hst : st.drop me'.na = .ref 0 :: r) (has : (st.take me'.na).reverse = as)
    (hg : m' ≠ 0 ∧ me'.rf + 1 ≤ me.rf ∧ cats r + (me'.ml + 11) + me'.rl ≤ me.rl ∧ nd (st.take me'.na) = true)
    (hq : calL P m' c (.ref 0 :: as) s fun v s' => wpc P mi me c (pc + 3) ls (.long v :: r) s' Q) : wpc P mi me c pc ls st s Q :=
  wpc_call hf hm hme hst has hg (cal.mono hq fun _ _ ⟨v, e, q⟩ => by subst e; exact q)
theorem wpc_callV {P : Cl} {mi : Nat} {me me' : Me} {c pc x m' : Nat} {ls : Lv} {st r as : List Value} {s : St} {Q : Option Value → St → Prop} {n : Nat} (hf : fetch me.cd pc = some (.invokevirtual x, n)) (hm : asc P.mx x = some m') (hme : asc P.ms m' = some me') (hst : st.drop me'.na = .ref 0 :: r) (has : (st.take me'.na).reverse = as)
    (hg : m' ≠ 0 ∧ me'.rf + 1 ≤ me.rf ∧ cats r + (me'.ml + 11) + me'.rl ≤ me.rl ∧ nd (st.take me'.na) = true)
    (hq : calV P m' c (.ref 0 :: as) s fun s' => wpc P mi me c (pc + 3) ls r s' Q) : wpc P mi me c pc ls st s Q :=
  wpc_call hf hm hme hst has hg (cal.mono hq fun _ _ ⟨e, q⟩ => by subst e; exact q)
/-- both roads of a value -/
theorem wp_val {p : Prop} [Decidable p] {α : Sort _} {F : α → Prop} {x y : α} (h : F (if p then x else y)) : (p → F x) ∧ (¬ p → F y) := ⟨fun q => by rw [if_pos q] at h; exact h, fun q => by rw [if_neg q] at h; exact h⟩
end Jvm.LM

namespace Jvm.LM
open Sem ClassFile Op Lib Jvm.Stand Jvm.Free Jvm.LawKit Jvm.RoadKit
/-! variables that are not read any more -/
def lle (a b : Lv) : Prop := a.length = b.length ∧ ∀ (k : Nat) (v : Value), a[k]? = some (some v) → b[k]? = some (some v)
def lle' : Lv → Lv → Prop
  | [], [] => True
  | none :: a, _ :: b => lle' a b
  | some v :: a, w :: b => w = some v ∧ lle' a b
  | _, _ => False
theorem lle_of {a b : Lv} (h : lle' a b) : lle a b := by
  induction a generalizing b with
  | nil => cases b with
    | nil => exact ⟨rfl, fun k v hk => hk⟩
    | cons y b => cases h
  | cons x a ih =>
    cases b with
    | nil => cases x <;> cases h
    | cons y b =>
      cases x with
      | none =>
        obtain ⟨h1, h2⟩ := ih (b := b) h
        refine ⟨by simp [h1], fun k v hk => ?_⟩
        cases k with
        | zero => simp at hk
        | succ k => simp at hk ⊢; exact h2 k v hk
      | some x =>
        obtain ⟨e, h⟩ := h
        obtain ⟨h1, h2⟩ := ih (b := b) h
        subst e
        refine ⟨by simp [h1], fun k v hk => ?_⟩
        cases k with
        | zero => exact hk
        | succ k => simp at hk ⊢; exact h2 k v hk
theorem clr_lle {a b : Lv} (h : lle a b) (i : Nat) : (clr a i).length = (clr b i).length ∧ ∀ k v, k ≠ i → (clr a i)[k]? = some (some v) → (clr b i)[k]? = some (some v) := by
  refine ⟨by rw [clr_len, clr_len]; exact h.1, fun k v hk hv => ?_⟩
  obtain ⟨q1, q2⟩ := clr_get hv
  have q3 := h.2 _ _ q1
  cases i with
  | zero => exact q3
  | succ j =>
    simp only [clr]
    split
    · rename_i x e
      rw [List.getElem?_set]
      split
      · rename_i e2; subst e2
        rw [q3] at e; cases e
        exact absurd rfl (q2 rfl)
      · exact q3
    · rename_i x e
      rw [List.getElem?_set]
      split
      · rename_i e2; subst e2
        rw [q3] at e; cases e
        exact absurd rfl (q2 rfl)
      · exact q3
    · exact q3
theorem stl_lle {a b a' : Lv} (h : lle a b) {i : Nat} {v : Value} (hs : stl a i v = some a') : ∃ b', stl b i v = some b' ∧ lle a' b' := by
  obtain ⟨c1, c2⟩ := clr_lle h i
  have hl := h.1
  have one : ∀ w : Value, ∀ k u, ((clr a i).set i (some w))[k]? = some (some u) → ((clr b i).set i (some w))[k]? = some (some u) := fun w k u hk => by
    rw [List.getElem?_set] at hk ⊢
    split
    · rename_i e; rw [if_pos e] at hk; rw [← c1]; exact hk
    · rename_i e; rw [if_neg e] at hk; exact c2 k u (fun q => e q.symm) hk
  unfold stl at hs ⊢
  split at hs
  · rename_i x
    split at hs
    · rename_i q
      cases hs
      refine ⟨((clr b i).set i (some (.long x))).set (i + 1) none, if_pos (by rw [← hl]; exact q), by simp [c1], fun k u hk => ?_⟩
      rw [List.getElem?_set] at hk ⊢
      split
      · rename_i e; rw [if_pos e] at hk; split at hk <;> simp at hk
      · rename_i e; rw [if_neg e] at hk; exact one _ k u hk
    · cases hs
  · split at hs
    · rename_i q
      cases hs
      exact ⟨(clr b i).set i (some v), if_pos (by rw [← hl]; exact q), by simp [c1], fun k u hk => one _ k u hk⟩
    · cases hs
theorem pstep_lle {i : Instr} {pc pc' : Nat} {ls l1 ls' : Lv} {st st' : List Value} (h : pstep i pc ls st = some (pc', l1, st')) (hl : lle ls ls') : ∃ l1', pstep i pc ls' st = some (pc', l1', st') ∧ lle l1 l1' := by
  unfold pstep at h ⊢
  split at h
  all_goals (try dsimp only)
  iterate 6
    · split at h
      · rename_i e; cases h; rw [hl.2 _ _ e]; exact ⟨_, rfl, hl⟩
      · cases h
  iterate 6
    · split at h
      · split at h
        · rename_i e; cases h
          obtain ⟨b', q1, q2⟩ := stl_lle hl e
          rw [q1]; exact ⟨_, rfl, q2⟩
        · cases h
      · cases h
  · split at h
    · rename_i e0
      split at h
      · rename_i e; cases h
        obtain ⟨b', q1, q2⟩ := stl_lle hl e
        rw [hl.2 _ _ e0]; dsimp only; rw [q1]; exact ⟨_, rfl, q2⟩
      · cases h
    · cases h
  · split at h
    · cases h; exact ⟨_, rfl, hl⟩
    · cases h
theorem cstep_lle {P : Cl} {mi : Nat} {me : Me} {rt : Option Value → St → Rs} {cl : Nat → Nat → List Value → St → Rs} {k : Nat → Nat → Lv → List Value → St → Rs} {i : Instr} {c pc : Nat} {ls ls' : Lv} {st : List Value} {s : St} {r : Option Value × St} (hl : lle ls ls')
    (hk : ∀ c pc ls ls' st s, lle ls ls' → k c pc ls st s = some r → k c pc ls' st s = some r) (h : cstep P mi me rt cl k i c pc ls st s = some r) : cstep P mi me rt cl k i c pc ls' st s = some r := by
  unfold cstep at h ⊢
  split at h
  all_goals (try dsimp only)
  · split at h
    · split at h
      · exact hk _ _ _ _ _ _ hl h
      · cases h
    · cases h
  · split at h
    · split at h
      · exact hk _ _ _ _ _ _ hl h
      · cases h
    · cases h
  iterate 6
    · split at h
      · exact hk _ _ _ _ _ _ hl h
      · cases h
  · split at h
    · rename_i q; rw [if_pos q]; exact hk _ _ _ _ _ _ hl h
    · cases h
  iterate 2
    · split at h
      · exact hk _ _ _ _ _ _ hl h
      · cases h
  · split at h
    · split at h
      · rename_i q; rw [if_pos q]; exact hk _ _ _ _ _ _ hl h
      · cases h
    · cases h
  · split at h
    · cases h
    · split at h
      · cases h
      · split at h
        · split at h
          · rename_i q
            rw [if_pos q]
            split at h
            · exact hk _ _ _ _ _ _ hl h
            · exact hk _ _ _ _ _ _ hl h
            · cases h
          · cases h
        · cases h
  · split at h
    · rename_i q; rw [if_pos q]; exact h
    · rename_i q; rw [if_neg q]
      split at h
      · rename_i e
        obtain ⟨l1', q1, q2⟩ := pstep_lle e hl
        rw [q1]; exact hk _ _ _ _ _ _ q2 h
      · cases h
theorem cexec_lle {P : Cl} : ∀ f mi me c pc ls ls' st s r, lle ls ls' → cexec P f mi me c pc ls st s = some r → cexec P f mi me c pc ls' st s = some r := by
  intro f
  induction f with
  | zero => intro mi me c pc ls ls' st s r _ h; cases h
  | succ f ih =>
    intro mi me c pc ls ls' st s r hl h
    rw [cexec] at h ⊢
    split at h
    · cases h
    · exact cstep_lle hl (fun c pc ls ls' st s hl h => ih _ _ _ _ _ _ _ _ _ hl h) h
theorem wpc_lle {P : Cl} {mi : Nat} {me : Me} {c pc : Nat} {ls ls' : Lv} {st : List Value} {s : St} {Q : Option Value → St → Prop} (hl : lle' ls ls') (h : wpc P mi me c pc ls st s Q) : wpc P mi me c pc ls' st s Q := by
  obtain ⟨f, v, s', h1, h2⟩ := h; exact ⟨f, v, s', cexec_lle _ _ _ _ _ _ _ _ _ _ (lle_of hl) h1, h2⟩
end Jvm.LM

namespace Jvm.LM
open Sem ClassFile Op Lib Jvm.Stand Jvm.Free Jvm.LawKit Jvm.RoadKit
theorem lstep_mono {α : Type} {P : Cl} {Q : Lw} {sc : Sc} {mi : Nat} {me : Me} {rt : Option Value → Wd → Option α} {cc cc' : Nat → Nat → List Value → St → Rs} {cl cl' : Nat → List Value → Wd → Rw} {k k' : Nat → Lv → List Value → Wd → Option α} {i : Instr} {pc : Nat} {ls : Lv} {st : List Value} {w : Wd} {r : α}
    (hcc : ∀ m c as s r, cc m c as s = some r → cc' m c as s = some r) (hcl : ∀ m as s r, cl m as s = some r → cl' m as s = some r) (hk : ∀ pc ls st s r, k pc ls st s = some r → k' pc ls st s = some r) (h : lstep P Q sc mi me rt cc cl k i pc ls st w = some r) : lstep P Q sc mi me rt cc' cl' k' i pc ls st w = some r := by
  unfold lstep at h ⊢
  split at h
  all_goals (try dsimp only)
  · split at h
    · split at h
      · rename_i q; rw [if_pos q]; exact hk _ _ _ _ _ h
      · cases h
    · cases h
  · split at h
    · exact hk _ _ _ _ _ h
    · cases h
  · split at h
    · exact hk _ _ _ _ _ h
    · cases h
  · split at h
    · exact hk _ _ _ _ _ h
    · cases h
  · split at h
    · rename_i q; rw [if_pos q]; exact hk _ _ _ _ _ h
    · cases h
  · split at h
    · cases h
    · split at h
      · split at h
        · rename_i q
          rw [if_pos q]
          split at h
          · rename_i s1 hc; rw [hcc _ _ _ _ _ hc]; exact hk _ _ _ _ _ h
          · cases h
        · cases h
      · cases h
  · split at h
    · cases h
    · split at h
      · cases h
      · split at h
        · split at h
          · rename_i q
            rw [if_pos q]
            split at h
            · rename_i s1 hc; rw [hcc _ _ _ _ _ hc]; exact hk _ _ _ _ _ h
            · rename_i v1 s1 hc; rw [hcc _ _ _ _ _ hc]; exact hk _ _ _ _ _ h
            · cases h
          · cases h
        · cases h
  · split at h
    · cases h
    · split at h
      · cases h
      · split at h
        · rename_i q
          rw [if_pos q]
          split at h
          · rename_i s1 hc; rw [hcl _ _ _ _ hc]; exact hk _ _ _ _ _ h
          · rename_i v1 s1 hc; rw [hcl _ _ _ _ hc]; exact hk _ _ _ _ _ h
          · cases h
        · cases h
  · split at h
    · rename_i q; rw [if_pos q]; exact h
    · rename_i q; rw [if_neg q]
      split at h
      · exact hk _ _ _ _ _ h
      · cases h
theorem lexec_succ {P : Cl} {Q : Lw} {sc : Sc} : ∀ f mi me pc ls st w r, lexec P Q sc f mi me pc ls st w = some r → lexec P Q sc (f + 1) mi me pc ls st w = some r := by
  intro f
  induction f with
  | zero => intro mi me pc ls st s r h; cases h
  | succ f ih =>
    intro mi me pc ls st s r h
    rw [lexec] at h ⊢
    split at h
    · cases h
    · refine lstep_mono (fun m c as s r h => ccall_le (Nat.le_succ _) h) (fun m as s r h => ?_) (fun pc ls st s r h => ih _ _ _ _ _ _ _ h) h
      split at h
      · split at h
        · rename_i q; rw [if_pos q]; exact ih _ _ _ _ _ _ _ h
        · cases h
      · cases h
theorem lexec_le {P : Cl} {Q : Lw} {sc : Sc} {f g mi : Nat} {me : Me} {pc : Nat} {ls : Lv} {st : List Value} {w : Wd} {r : Option Value × Wd} (hfg : f ≤ g) (h : lexec P Q sc f mi me pc ls st w = some r) : lexec P Q sc g mi me pc ls st w = some r := by
  obtain ⟨d, rfl⟩ := Nat.le.dest hfg
  induction d with
  | zero => exact h
  | succ d ih => exact lexec_succ _ _ _ _ _ _ _ _ (ih (Nat.le_add_right _ _))
theorem lcall_le {P : Cl} {Q : Lw} {sc : Sc} {f g m' : Nat} {as : List Value} {w : Wd} {r : Option Value × Wd} (hfg : f ≤ g) (h : lcall P Q sc f m' as w = some r) : lcall P Q sc g m' as w = some r := by
  unfold lcall at h ⊢
  split at h
  · split at h
    · rename_i q; rw [if_pos q]; exact lexec_le hfg h
    · cases h
  · cases h
def wpl (P : Cl) (Q : Lw) (sc : Sc) (mi : Nat) (me : Me) (pc : Nat) (ls : Lv) (st : List Value) (w : Wd) (R : Option Value → Wd → Prop) : Prop := ∃ f v w', lexec P Q sc f mi me pc ls st w = some (v, w') ∧ R v w'
def lal (P : Cl) (Q : Lw) (sc : Sc) (m' : Nat) (as : List Value) (w : Wd) (R : Option Value → Wd → Prop) : Prop := ∃ f v w', lcall P Q sc f m' as w = some (v, w') ∧ R v w'
def lalI (P : Cl) (Q : Lw) (sc : Sc) (m' : Nat) (as : List Value) (w : Wd) (R : Int32 → Wd → Prop) : Prop := lal P Q sc m' as w fun r w' => ∃ v, r = some (.int v) ∧ R v w'
def lalL (P : Cl) (Q : Lw) (sc : Sc) (m' : Nat) (as : List Value) (w : Wd) (R : Int64 → Wd → Prop) : Prop := lal P Q sc m' as w fun r w' => ∃ v, r = some (.long v) ∧ R v w'
def lalV (P : Cl) (Q : Lw) (sc : Sc) (m' : Nat) (as : List Value) (w : Wd) (R : Wd → Prop) : Prop := lal P Q sc m' as w fun r w' => r = none ∧ R w'
theorem lal.mono {P : Cl} {Q : Lw} {sc : Sc} {m' : Nat} {as : List Value} {w : Wd} {R R' : Option Value → Wd → Prop} (h : lal P Q sc m' as w R) (hq : ∀ v s', R v s' → R' v s') : lal P Q sc m' as w R' := by
  obtain ⟨f, v, s', h1, h2⟩ := h; exact ⟨f, v, s', h1, hq _ _ h2⟩
theorem lalI.mono {P : Cl} {Q : Lw} {sc : Sc} {m' : Nat} {as : List Value} {w : Wd} {R R' : Int32 → Wd → Prop} (h : lalI P Q sc m' as w R) (hq : ∀ v s', R v s' → R' v s') : lalI P Q sc m' as w R' := lal.mono h fun _ _ ⟨v, e, q⟩ => ⟨v, e, hq _ _ q⟩
theorem lalL.mono {P : Cl} {Q : Lw} {sc : Sc} {m' : Nat} {as : List Value} {w : Wd} {R R' : Int64 → Wd → Prop} (h : lalL P Q sc m' as w R) (hq : ∀ v s', R v s' → R' v s') : lalL P Q sc m' as w R' := lal.mono h fun _ _ ⟨v, e, q⟩ => ⟨v, e, hq _ _ q⟩
theorem lalV.mono {P : Cl} {Q : Lw} {sc : Sc} {m' : Nat} {as : List Value} {w : Wd} {R R' : Wd → Prop} (h : lalV P Q sc m' as w R) (hq : ∀ s', R s' → R' s') : lalV P Q sc m' as w R' := lal.mono h fun _ _ ⟨e, q⟩ => ⟨e, hq _ q⟩
theorem wpl.mono {P : Cl} {Q : Lw} {sc : Sc} {mi : Nat} {me : Me} {pc : Nat} {ls : Lv} {st : List Value} {w : Wd} {R R' : Option Value → Wd → Prop} (h : wpl P Q sc mi me pc ls st w R) (hq : ∀ v s', R v s' → R' v s') : wpl P Q sc mi me pc ls st w R' := by
  obtain ⟨f, v, s', h1, h2⟩ := h; exact ⟨f, v, s', h1, hq _ _ h2⟩
theorem wpl_one {P : Cl} {Q : Lw} {sc : Sc} {mi : Nat} {me : Me} {pc pc' : Nat} {ls ls' : Lv} {st st' : List Value} {w w' : Wd} {R : Option Value → Wd → Prop} {i : Instr} {n : Nat} (hf : fetch me.cd pc = some (i, n))
    (h : ∀ (rt : Option Value → Wd → Rw) cc cl (k : Nat → Lv → List Value → Wd → Rw), lstep P Q sc mi me rt cc cl k i pc ls st w = k pc' ls' st' w') (hq : wpl P Q sc mi me pc' ls' st' w' R) : wpl P Q sc mi me pc ls st w R := by
  obtain ⟨f, v, s2, h1, h2⟩ := hq
  refine ⟨f + 1, v, s2, ?_, h2⟩
  rw [lexec, hf]; dsimp only; rw [h]; exact h1
/-- plain steps: nothing of the heap, no call -/
def isPl : Instr → Bool
  | .iaload => false | .arraylength => false | .ldc _ => false | .ldc2_w _ => false | .new _ => false | .invokespecial _ => false | .invokevirtual _ => false | .invokestatic _ => false
  | .ireturn => false | .lreturn => false | .return_ => false
  | _ => true
theorem lstep_pl {α : Type} {P : Cl} {Q : Lw} {sc : Sc} {mi : Nat} {me : Me} {rt : Option Value → Wd → Option α} {cc : Nat → Nat → List Value → St → Rs} {cl : Nat → List Value → Wd → Rw} {k : Nat → Lv → List Value → Wd → Option α} {i : Instr} {pc : Nat} {ls : Lv} {st : List Value} {w : Wd} (hi : isPl i = true) :
    lstep P Q sc mi me rt cc cl k i pc ls st w = match pstep i pc ls st with | some (pc', ls', st') => k pc' ls' st' w | none => none := by
  cases i <;> first | (cases hi; done) | rfl
def psl (kx : List (Nat × Value)) (cd : Cd) : Nat → Nat → Lv → List Value → Option (Nat × Lv × List Value)
  | 0, pc, ls, st => some (pc, ls, st)
  | n + 1, pc, ls, st => match fetch cd pc with
    | none => none
    | some (i, _) => match i with
      | .ldc x => (match asc kx x with | some (.int z) => psl kx cd n (pc + 2) ls (.int z :: st) | _ => none)
      | .ldc2_w x => (match asc kx x with | some (.long z) => psl kx cd n (pc + 3) ls (.long z :: st) | _ => none)
      | i => if isPl i = true then (match pstep i pc ls st with | some (pc', ls', st') => psl kx cd n pc' ls' st' | none => none) else none
theorem wpl_sl {P : Cl} {Q : Lw} {sc : Sc} {mi : Nat} {me : Me} {w : Wd} {R : Option Value → Wd → Prop} : ∀ {n pc pc' : Nat} {ls ls' : Lv} {st st' : List Value}, psl Q.kx me.cd n pc ls st = some (pc', ls', st') → wpl P Q sc mi me pc' ls' st' w R → wpl P Q sc mi me pc ls st w R := by
  intro n
  induction n with
  | zero => intro pc pc' ls ls' st st' h hq; cases h; exact hq
  | succ n ih =>
    intro pc pc' ls ls' st st' h hq
    simp only [psl] at h
    split at h
    · cases h
    · rename_i i m hf
      split at h
      · split at h
        · rename_i z e
          exact wpl_one hf (fun rt cc cl k => by simp only [lstep, e]) (ih h hq)
        · cases h
      · split at h
        · rename_i z e
          exact wpl_one hf (fun rt cc cl k => by simp only [lstep, e]) (ih h hq)
        · cases h
      · split at h
        · rename_i hi
          split at h
          · rename_i pc1 ls1 st1 e
            exact wpl_one hf (fun rt cc cl k => by rw [lstep_pl hi, e]) (ih h hq)
          · cases h
        · cases h
theorem wpl_ret {P : Cl} {Q : Lw} {sc : Sc} {mi : Nat} {me : Me} {pc : Nat} {ls : Lv} {st : List Value} {w : Wd} {R : Option Value → Wd → Prop} {i : Instr} {n : Nat} {v : Option Value} (hf : fetch me.cd pc = some (i, n)) (hr : isRet i = true) (h : cret me st i = some v) (hq : R v w) : wpl P Q sc mi me pc ls st w R := by
  refine ⟨1, v, w, ?_, hq⟩
  rw [lexec, hf]; dsimp only
  cases i <;> first | (cases hr; done) | (simp only [lstep]; rw [if_pos hr, h])
theorem wpl_if {P : Cl} {Q : Lw} {sc : Sc} {mi : Nat} {me : Me} {pc a b : Nat} {ls : Lv} {r : List Value} {w : Wd} {R : Option Value → Wd → Prop} {cd : ClassFile.Cond} {o : Int} {n : Nat} {x : Int32} (hf : fetch me.cd pc = some (.ifCond cd o, n)) (ho : 0 ≤ (pc : Int) + o) (ha : jmp pc o = a) (hb : pc + 3 = b)
    (hq : wpl P Q sc mi me (br cd x 0 a b) ls r w R) : wpl P Q sc mi me pc ls (.int x :: r) w R := by
  subst ha hb
  refine wpl_one hf (fun rt cc cl k => ?_) hq
  rw [lstep_pl rfl]
  simp only [pstep, qstep]; rw [if_pos ho]
theorem wpl_icmp {P : Cl} {Q : Lw} {sc : Sc} {mi : Nat} {me : Me} {pc a b : Nat} {ls : Lv} {r : List Value} {w : Wd} {R : Option Value → Wd → Prop} {cd : ClassFile.Cond} {o : Int} {n : Nat} {x y : Int32} (hf : fetch me.cd pc = some (.if_icmp cd o, n)) (ho : 0 ≤ (pc : Int) + o) (ha : jmp pc o = a) (hb : pc + 3 = b)
    (hq : wpl P Q sc mi me (br cd x y a b) ls r w R) : wpl P Q sc mi me pc ls (.int y :: .int x :: r) w R := by
  subst ha hb
  refine wpl_one hf (fun rt cc cl k => ?_) hq
  rw [lstep_pl rfl]
  simp only [pstep, qstep]; rw [if_pos ho]
theorem wpl_br {P : Cl} {Q : Lw} {sc : Sc} {mi : Nat} {me : Me} {a b : Nat} {ls : Lv} {st : List Value} {w : Wd} {R : Option Value → Wd → Prop} {p : Prop} [Decidable p] (h : (p → wpl P Q sc mi me a ls st w R) ∧ (¬ p → wpl P Q sc mi me b ls st w R)) : wpl P Q sc mi me (if p then a else b) ls st w R := by
  by_cases hp : p
  · rw [if_pos hp]; exact h.1 hp
  · rw [if_neg hp]; exact h.2 hp
theorem wpl_lda {P : Cl} {Q : Lw} {N : Nat} {g : Nat → Int32} {mi : Nat} {me : Me} {pc : Nat} {ls : Lv} {r : List Value} {w : Wd} {R : Option Value → Wd → Prop} {n : Nat} {j : Int32} (hf : fetch me.cd pc = some (.iaload, n)) (hj : inb N j) (hq : wpl P Q (some (N, g)) mi me (pc + 1) ls (.int (g (ix j)) :: r) w R) : wpl P Q (some (N, g)) mi me pc ls (.int j :: .ref 0 :: r) w R := by
  refine wpl_one hf (fun rt cc cl k => ?_) hq
  simp only [lstep]; rw [if_pos hj]
theorem wpl_len {P : Cl} {Q : Lw} {N : Nat} {g : Nat → Int32} {mi : Nat} {me : Me} {pc : Nat} {ls : Lv} {r : List Value} {w : Wd} {R : Option Value → Wd → Prop} {n : Nat} (hf : fetch me.cd pc = some (.arraylength, n)) (hq : wpl P Q (some (N, g)) mi me (pc + 1) ls (.int (Int32.ofNat N) :: r) w R) : wpl P Q (some (N, g)) mi me pc ls (.ref 0 :: r) w R := by
  refine wpl_one hf (fun rt cc cl k => ?_) hq
  simp only [lstep]
theorem wpl_new {P : Cl} {Q : Lw} {sc : Sc} {me : Me} {pc cnt : Nat} {ls : Lv} {st : List Value} {os : Nat → St} {R : Option Value → Wd → Prop} {n x : Nat} (hf : fetch me.cd pc = some (.new x, n)) (hx : x = Q.cx) (h1 : (cnt + 1) * (P.al.length + 1) ≤ Q.rc) (h2 : (cnt + 1) * (Q.nf + zs P.al P.al.length) ≤ Q.rs)
    (hq : wpl P Q sc 0 me (pc + 3) ls (.ref (cnt + 1) :: st) (uo os cnt s0, cnt, true) R) : wpl P Q sc 0 me pc ls st (os, cnt, false) R := by
  refine wpl_one hf (fun rt cc cl k => ?_) hq
  simp only [lstep]; rw [if_pos ⟨trivial, hx, trivial, h1, h2⟩]
theorem wpl_ctor {P : Cl} {Q : Lw} {sc : Sc} {me me' : Me} {pc cnt : Nat} {ls : Lv} {st r as : List Value} {os : Nat → St} {R : Option Value → Wd → Prop} {n x : Nat} (hf : fetch me.cd pc = some (.invokespecial x, n)) (hx : x = Q.ci) (hme : asc P.ms 0 = some me') (hst : st.drop me'.na = .ref (cnt + 1) :: r) (has : (st.take me'.na).reverse = as)
    (hg : me'.rf + 1 ≤ me.rf ∧ cats r + (me'.ml + 11) + me'.rl ≤ me.rl ∧ nr (st.take me'.na) = true ∧ (cnt + 1) * (P.al.length + 1) ≤ Q.rc ∧ (cnt + 1) * (Q.nf + zs P.al P.al.length) ≤ Q.rs)
    (hq : calV P 0 0 (.ref 0 :: as) (os cnt) fun s' => wpl P Q sc 0 me (pc + 3) ls r (uo os cnt s', cnt + 1, false) R) : wpl P Q sc 0 me pc ls st (os, cnt, true) R := by
  subst has
  obtain ⟨f1, v, s1, h1, rfl, f2, v2, s2, h2, h3⟩ := hq
  refine ⟨max f1 f2 + 1, v2, s2, ?_, h3⟩
  have h1' := ccall_le (Nat.le_max_left f1 f2) h1
  have h2' := lexec_le (Nat.le_max_right f1 f2) h2
  rw [lexec, hf]; dsimp only
  simp only [lstep, hme, hst]
  rw [if_pos ⟨hx, trivial, trivial, trivial, hg⟩, h1']
  exact h2'
theorem wpl_call {P : Cl} {Q : Lw} {sc : Sc} {mi : Nat} {me me' : Me} {pc x m' o : Nat} {ls : Lv} {st r as : List Value} {w : Wd} {R : Option Value → Wd → Prop} {n : Nat} (hf : fetch me.cd pc = some (.invokevirtual x, n)) (hm : asc Q.vx x = some m') (hme : asc P.ms m' = some me') (hst : st.drop me'.na = .ref (o + 1) :: r) (has : (st.take me'.na).reverse = as)
    (hg : m' ≠ 0 ∧ o < w.2.1 ∧ me'.rf + 1 ≤ me.rf ∧ cats r + (me'.ml + 11) + me'.rl ≤ me.rl ∧ nr (st.take me'.na) = true)
    (hq : cal P m' P.al.length (.ref 0 :: as) (w.1 o) fun v s' => wpl P Q sc mi me (pc + 3) ls (v.toList ++ r) (uo w.1 o s', w.2.1, w.2.2) R) : wpl P Q sc mi me pc ls st w R := by
  subst has
  obtain ⟨f1, v, s1, h1, f2, v2, s2, h2, h3⟩ := hq
  refine ⟨max f1 f2 + 1, v2, s2, ?_, h3⟩
  have h1' := ccall_le (Nat.le_max_left f1 f2) h1
  have h2' := lexec_le (Nat.le_max_right f1 f2) h2
  rw [lexec, hf]; dsimp only
  simp only [lstep, hm, hme, hst]
  rw [if_pos hg, h1']
  cases v <;> exact h2'
theorem wpl_stat {P : Cl} {Q : Lw} {sc : Sc} {mi : Nat} {me me' : Me} {pc x m' : Nat} {ls : Lv} {st r as : List Value} {w : Wd} {R : Option Value → Wd → Prop} {n : Nat} (hf : fetch me.cd pc = some (.invokestatic x, n)) (hm : asc Q.sx x = some m') (hme : asc Q.ms m' = some me') (hst : st.drop me'.na = r) (has : (st.take me'.na).reverse = as)
    (hg : m' ≠ 0 ∧ me'.na ≤ st.length ∧ me'.rf + 1 ≤ me.rf ∧ cats r + (me'.ml + 11) + me'.rl ≤ me.rl ∧ nd (st.take me'.na) = true)
    (hq : lal P Q sc m' as w fun v w' => wpl P Q sc mi me (pc + 3) ls (v.toList ++ r) w' R) : wpl P Q sc mi me pc ls st w R := by
  subst has hst
  obtain ⟨f1, v, s1, h1, f2, v2, s2, h2, h3⟩ := hq
  refine ⟨max f1 f2 + 1, v2, s2, ?_, h3⟩
  have h1' := lcall_le (Nat.le_max_left f1 f2) h1
  have h2' := lexec_le (Nat.le_max_right f1 f2) h2
  rw [lexec, hf]; dsimp only
  simp only [lstep, hm, hme]
  rw [if_pos hg]
  simp only [lcall, hme] at h1'
  rw [h1']
  cases v <;> exact h2'
theorem lal_of {P : Cl} {Q : Lw} {sc : Sc} {m' : Nat} {as : List Value} {w : Wd} {R : Option Value → Wd → Prop} {me : Me} {ls : Lv} (hme : asc Q.ms m' = some me) (hl : (layA as).length ≤ me.ml) (hls : lay as me.ml = ls) (h : wpl P Q sc m' me 0 ls [] w R) : lal P Q sc m' as w R := by
  subst hls
  obtain ⟨f, v, s', h1, h2⟩ := h
  refine ⟨f, v, s', ?_, h2⟩
  simp only [lcall, hme]; rw [if_pos hl]; exact h1
theorem lstep_lle {P : Cl} {Q : Lw} {sc : Sc} {mi : Nat} {me : Me} {rt : Option Value → Wd → Rw} {cc : Nat → Nat → List Value → St → Rs} {cl : Nat → List Value → Wd → Rw} {k : Nat → Lv → List Value → Wd → Rw} {i : Instr} {pc : Nat} {ls ls' : Lv} {st : List Value} {w : Wd} {r : Option Value × Wd} (hl : lle ls ls')
    (hk : ∀ pc ls ls' st s, lle ls ls' → k pc ls st s = some r → k pc ls' st s = some r) (h : lstep P Q sc mi me rt cc cl k i pc ls st w = some r) : lstep P Q sc mi me rt cc cl k i pc ls' st w = some r := by
  unfold lstep at h ⊢
  split at h
  all_goals (try dsimp only)
  · split at h
    · split at h
      · rename_i q; rw [if_pos q]; exact hk _ _ _ _ _ hl h
      · cases h
    · cases h
  iterate 3
    · split at h
      · exact hk _ _ _ _ _ hl h
      · cases h
  · split at h
    · rename_i q; rw [if_pos q]; exact hk _ _ _ _ _ hl h
    · cases h
  · split at h
    · cases h
    · split at h
      · split at h
        · rename_i q
          rw [if_pos q]
          split at h
          · exact hk _ _ _ _ _ hl h
          · cases h
        · cases h
      · cases h
  · split at h
    · cases h
    · split at h
      · cases h
      · split at h
        · split at h
          · rename_i q
            rw [if_pos q]
            split at h
            · exact hk _ _ _ _ _ hl h
            · exact hk _ _ _ _ _ hl h
            · cases h
          · cases h
        · cases h
  · split at h
    · cases h
    · split at h
      · cases h
      · split at h
        · rename_i q
          rw [if_pos q]
          split at h
          · exact hk _ _ _ _ _ hl h
          · exact hk _ _ _ _ _ hl h
          · cases h
        · cases h
  · split at h
    · rename_i q; rw [if_pos q]; exact h
    · rename_i q; rw [if_neg q]
      split at h
      · rename_i e
        obtain ⟨l1', q1, q2⟩ := pstep_lle e hl
        rw [q1]; exact hk _ _ _ _ _ q2 h
      · cases h
theorem lexec_lle {P : Cl} {Q : Lw} {sc : Sc} : ∀ f mi me pc ls ls' st w r, lle ls ls' → lexec P Q sc f mi me pc ls st w = some r → lexec P Q sc f mi me pc ls' st w = some r := by
  intro f
  induction f with
  | zero => intro mi me pc ls ls' st w r _ h; cases h
  | succ f ih =>
    intro mi me pc ls ls' st w r hl h
    rw [lexec] at h ⊢
    split at h
    · cases h
    · exact lstep_lle hl (fun pc ls ls' st s hl h => ih _ _ _ _ _ _ _ _ hl h) h
theorem wpl_lle {P : Cl} {Q : Lw} {sc : Sc} {mi : Nat} {me : Me} {pc : Nat} {ls ls' : Lv} {st : List Value} {w : Wd} {R : Option Value → Wd → Prop} (hl : lle' ls ls') (h : wpl P Q sc mi me pc ls st w R) : wpl P Q sc mi me pc ls' st w R := by
  obtain ⟨f, v, s', h1, h2⟩ := h; exact ⟨f, v, s', lexec_lle _ _ _ _ _ _ _ _ _ (lle_of hl) h1, h2⟩
/-! worlds of no, one and two objects -/
def W0 : Wd := (fun _ => s0, 0, false)
def W0p : Wd := (uo (fun _ => s0) 0 s0, 0, true)
def W1 (s : St) : Wd := (uo (fun _ => s0) 0 s, 1, false)
def W1p (s : St) : Wd := (uo (uo (fun _ => s0) 0 s) 1 s0, 1, true)
def W2 (s t : St) : Wd := (uo (uo (fun _ => s0) 0 s) 1 t, 2, false)
theorem uo_uo (f : Nat → St) (o : Nat) (s t : St) : uo (uo f o s) o t = uo f o t := by
  funext i; simp only [uo]; split <;> rfl
theorem uo_swap (f : Nat → St) {o o' : Nat} (h : o ≠ o') (s t : St) : uo (uo f o s) o' t = uo (uo f o' t) o s := by
  funext i; simp only [uo]
  by_cases a : i = o
  · subst a; simp [h]
  · by_cases b : i = o'
    · subst b; simp [Ne.symm h]
    · simp [a, b]
section Worlds
variable {P : Cl} {Q : Lw} {sc : Sc} {mi : Nat} {me me' : Me} {pc x m' : Nat} {ls : Lv} {st r as : List Value} {R : Option Value → Wd → Prop} {n : Nat} {s t : St}
theorem wpl_new0 (hf : fetch me.cd pc = some (.new x, n)) (hx : x = Q.cx) (h1 : 1 * (P.al.length + 1) ≤ Q.rc) (h2 : 1 * (Q.nf + zs P.al P.al.length) ≤ Q.rs) (hq : wpl P Q sc 0 me (pc + 3) ls (.ref 1 :: st) W0p R) : wpl P Q sc 0 me pc ls st W0 R := wpl_new (cnt := 0) hf hx h1 h2 hq
theorem wpl_new1 (hf : fetch me.cd pc = some (.new x, n)) (hx : x = Q.cx) (h1 : 2 * (P.al.length + 1) ≤ Q.rc) (h2 : 2 * (Q.nf + zs P.al P.al.length) ≤ Q.rs) (hq : wpl P Q sc 0 me (pc + 3) ls (.ref 2 :: st) (W1p s) R) : wpl P Q sc 0 me pc ls st (W1 s) R := wpl_new (cnt := 1) hf hx h1 h2 hq
theorem wpl_ctor0 (hf : fetch me.cd pc = some (.invokespecial x, n)) (hx : x = Q.ci) (hme : asc P.ms 0 = some me') (hst : st.drop me'.na = .ref 1 :: r) (has : (st.take me'.na).reverse = as)
    (hg : me'.rf + 1 ≤ me.rf ∧ cats r + (me'.ml + 11) + me'.rl ≤ me.rl ∧ nr (st.take me'.na) = true ∧ 1 * (P.al.length + 1) ≤ Q.rc ∧ 1 * (Q.nf + zs P.al P.al.length) ≤ Q.rs)
    (hq : calV P 0 0 (.ref 0 :: as) s0 fun s' => wpl P Q sc 0 me (pc + 3) ls r (W1 s') R) : wpl P Q sc 0 me pc ls st W0p R := by
  refine wpl_ctor (cnt := 0) hf hx hme hst has hg ?_
  refine calV.mono (show calV P 0 0 (.ref 0 :: as) (uo (fun _ => s0) 0 s0 0) _ from hq) fun s' h => ?_
  rw [uo_uo]; exact h
theorem wpl_ctor1 (hf : fetch me.cd pc = some (.invokespecial x, n)) (hx : x = Q.ci) (hme : asc P.ms 0 = some me') (hst : st.drop me'.na = .ref 2 :: r) (has : (st.take me'.na).reverse = as)
    (hg : me'.rf + 1 ≤ me.rf ∧ cats r + (me'.ml + 11) + me'.rl ≤ me.rl ∧ nr (st.take me'.na) = true ∧ 2 * (P.al.length + 1) ≤ Q.rc ∧ 2 * (Q.nf + zs P.al P.al.length) ≤ Q.rs)
    (hq : calV P 0 0 (.ref 0 :: as) s0 fun s' => wpl P Q sc 0 me (pc + 3) ls r (W2 s s') R) : wpl P Q sc 0 me pc ls st (W1p s) R := by
  refine wpl_ctor (cnt := 1) hf hx hme hst has hg ?_
  refine calV.mono (show calV P 0 0 (.ref 0 :: as) (uo (uo (fun _ => s0) 0 s) 1 s0 1) _ from hq) fun s' h => ?_
  rw [uo_uo]; exact h
theorem wpl_v1 (hf : fetch me.cd pc = some (.invokevirtual x, n)) (hm : asc Q.vx x = some m') (hme : asc P.ms m' = some me') (hst : st.drop me'.na = .ref 1 :: r) (has : (st.take me'.na).reverse = as)
    (hg : m' ≠ 0 ∧ me'.rf + 1 ≤ me.rf ∧ cats r + (me'.ml + 11) + me'.rl ≤ me.rl ∧ nr (st.take me'.na) = true)
    (hq : cal P m' P.al.length (.ref 0 :: as) s fun v s' => wpl P Q sc mi me (pc + 3) ls (v.toList ++ r) (W1 s') R) : wpl P Q sc mi me pc ls st (W1 s) R := by
  refine wpl_call (o := 0) hf hm hme hst has ⟨hg.1, by show 0 < 1; decide, hg.2⟩ ?_
  refine cal.mono (show cal P m' P.al.length (.ref 0 :: as) ((W1 s).1 0) _ from hq) fun v s' h => ?_
  show wpl P Q sc mi me (pc + 3) ls (v.toList ++ r) (uo (uo (fun _ => s0) 0 s) 0 s', 1, false) R
  rw [uo_uo]; exact h
theorem wpl_v2a (hf : fetch me.cd pc = some (.invokevirtual x, n)) (hm : asc Q.vx x = some m') (hme : asc P.ms m' = some me') (hst : st.drop me'.na = .ref 1 :: r) (has : (st.take me'.na).reverse = as)
    (hg : m' ≠ 0 ∧ me'.rf + 1 ≤ me.rf ∧ cats r + (me'.ml + 11) + me'.rl ≤ me.rl ∧ nr (st.take me'.na) = true)
    (hq : cal P m' P.al.length (.ref 0 :: as) s fun v s' => wpl P Q sc mi me (pc + 3) ls (v.toList ++ r) (W2 s' t) R) : wpl P Q sc mi me pc ls st (W2 s t) R := by
  refine wpl_call (o := 0) hf hm hme hst has ⟨hg.1, by show 0 < 2; decide, hg.2⟩ ?_
  refine cal.mono (show cal P m' P.al.length (.ref 0 :: as) ((W2 s t).1 0) _ from hq) fun v s' h => ?_
  show wpl P Q sc mi me (pc + 3) ls (v.toList ++ r) (uo (uo (uo (fun _ => s0) 0 s) 1 t) 0 s', 2, false) R
  rw [uo_swap _ (by decide), uo_uo]; exact h
theorem wpl_v2b (hf : fetch me.cd pc = some (.invokevirtual x, n)) (hm : asc Q.vx x = some m') (hme : asc P.ms m' = some me') (hst : st.drop me'.na = .ref 2 :: r) (has : (st.take me'.na).reverse = as)
    (hg : m' ≠ 0 ∧ me'.rf + 1 ≤ me.rf ∧ cats r + (me'.ml + 11) + me'.rl ≤ me.rl ∧ nr (st.take me'.na) = true)
    (hq : cal P m' P.al.length (.ref 0 :: as) t fun v s' => wpl P Q sc mi me (pc + 3) ls (v.toList ++ r) (W2 s s') R) : wpl P Q sc mi me pc ls st (W2 s t) R := by
  refine wpl_call (o := 1) hf hm hme hst has ⟨hg.1, by show 1 < 2; decide, hg.2⟩ ?_
  refine cal.mono (show cal P m' P.al.length (.ref 0 :: as) ((W2 s t).1 1) _ from hq) fun v s' h => ?_
  show wpl P Q sc mi me (pc + 3) ls (v.toList ++ r) (uo (uo (uo (fun _ => s0) 0 s) 1 t) 1 s', 2, false) R
  rw [uo_uo]; exact h
end Worlds
theorem cal_I {P : Cl} {m' c : Nat} {as : List Value} {s : St} {F : Option Value → St → Prop} (h : calI P m' c as s fun v s' => F (some (.int v)) s') : cal P m' c as s F := cal.mono h fun _ _ ⟨v, e, q⟩ => by subst e; exact q
theorem cal_L {P : Cl} {m' c : Nat} {as : List Value} {s : St} {F : Option Value → St → Prop} (h : calL P m' c as s fun v s' => F (some (.long v)) s') : cal P m' c as s F := cal.mono h fun _ _ ⟨v, e, q⟩ => by subst e; exact q
theorem cal_V {P : Cl} {m' c : Nat} {as : List Value} {s : St} {F : Option Value → St → Prop} (h : calV P m' c as s fun s' => F none s') : cal P m' c as s F := cal.mono h fun _ _ ⟨e, q⟩ => by subst e; exact q
theorem lal_I {P : Cl} {Q : Lw} {sc : Sc} {m' : Nat} {as : List Value} {w : Wd} {F : Option Value → Wd → Prop} (h : lalI P Q sc m' as w fun v w' => F (some (.int v)) w') : lal P Q sc m' as w F := lal.mono h fun _ _ ⟨v, e, q⟩ => by subst e; exact q
theorem lal_L {P : Cl} {Q : Lw} {sc : Sc} {m' : Nat} {as : List Value} {w : Wd} {F : Option Value → Wd → Prop} (h : lalL P Q sc m' as w fun v w' => F (some (.long v)) w') : lal P Q sc m' as w F := lal.mono h fun _ _ ⟨v, e, q⟩ => by subst e; exact q
theorem lal_V {P : Cl} {Q : Lw} {sc : Sc} {m' : Nat} {as : List Value} {w : Wd} {F : Option Value → Wd → Prop} (h : lalV P Q sc m' as w fun w' => F none w') : lal P Q sc m' as w F := lal.mono h fun _ _ ⟨e, q⟩ => by subst e; exact q
end Jvm.LM

namespace Jvm.LM
open Sem ClassFile Op Lib Jvm.Stand Jvm.Free Jvm.LawKit Jvm.RoadKit
/-! rules for the steps that ask something -/
abbrev wpcI (P : Cl) (mi : Nat) (me : Me) (c pc : Nat) (ls : Lv) (st : List Value) (s : St) (Q : Int32 → St → Prop) : Prop := wpc P mi me c pc ls st s fun r s' => ∃ v, r = some (.int v) ∧ Q v s'
abbrev wpcL (P : Cl) (mi : Nat) (me : Me) (c pc : Nat) (ls : Lv) (st : List Value) (s : St) (Q : Int64 → St → Prop) : Prop := wpc P mi me c pc ls st s fun r s' => ∃ v, r = some (.long v) ∧ Q v s'
abbrev wpcV (P : Cl) (mi : Nat) (me : Me) (c pc : Nat) (ls : Lv) (st : List Value) (s : St) (Q : St → Prop) : Prop := wpc P mi me c pc ls st s fun r s' => r = none ∧ Q s'
abbrev wplI (P : Cl) (Q : Lw) (sc : Sc) (mi : Nat) (me : Me) (pc : Nat) (ls : Lv) (st : List Value) (w : Wd) (R : Int32 → Wd → Prop) : Prop := wpl P Q sc mi me pc ls st w fun r w' => ∃ v, r = some (.int v) ∧ R v w'
abbrev wplL (P : Cl) (Q : Lw) (sc : Sc) (mi : Nat) (me : Me) (pc : Nat) (ls : Lv) (st : List Value) (w : Wd) (R : Int64 → Wd → Prop) : Prop := wpl P Q sc mi me pc ls st w fun r w' => ∃ v, r = some (.long v) ∧ R v w'
abbrev wplV (P : Cl) (Q : Lw) (sc : Sc) (mi : Nat) (me : Me) (pc : Nat) (ls : Lv) (st : List Value) (w : Wd) (R : Wd → Prop) : Prop := wpl P Q sc mi me pc ls st w fun r w' => r = none ∧ R w'
section C
variable {P : Cl} {mi : Nat} {me : Me} {c pc a N n : Nat} {ls : Lv} {r : List Value} {s s' : St} {Q : Option Value → St → Prop} {j : Int32}
theorem wpc_ldaI {v : Int32} (hf : fetch me.cd pc = some (.iaload, n)) (ha : P.al[a]? = some (0, N)) (hac : a < c) (hj : inb N j) (hv : gI s (a + 1) (ix j) = v) (hq : wpc P mi me c (pc + 1) ls (.int v :: r) s Q) : wpc P mi me c pc ls (.int j :: .ref (a + 1) :: r) s Q := by
  subst hv; exact wpc_lda hf (Or.inl ⟨rfl, rfl⟩) ha hac hj hq
theorem wpc_ldaZ {v : Int32} (hf : fetch me.cd pc = some (.baload, n)) (ha : P.al[a]? = some (1, N)) (hac : a < c) (hj : inb N j) (hv : gI s (a + 1) (ix j) = v) (hq : wpc P mi me c (pc + 1) ls (.int v :: r) s Q) : wpc P mi me c pc ls (.int j :: .ref (a + 1) :: r) s Q := by
  subst hv; exact wpc_lda hf (Or.inr (Or.inl ⟨rfl, rfl⟩)) ha hac hj hq
theorem wpc_ldaJ {v : Int64} (hf : fetch me.cd pc = some (.laload, n)) (ha : P.al[a]? = some (2, N)) (hac : a < c) (hj : inb N j) (hv : gL s (a + 1) (ix j) = v) (hq : wpc P mi me c (pc + 1) ls (.long v :: r) s Q) : wpc P mi me c pc ls (.int j :: .ref (a + 1) :: r) s Q := by
  subst hv; exact wpc_lda hf (Or.inr (Or.inr ⟨rfl, rfl⟩)) ha hac hj hq
theorem wpc_staI {z : Int32} (hf : fetch me.cd pc = some (.iastore, n)) (ha : P.al[a]? = some (0, N)) (hac : a < c) (hj : inb N j) (hs : sI s (a + 1) (ix j) z = s') (hq : wpc P mi me c (pc + 1) ls r s' Q) : wpc P mi me c pc ls (.int z :: .int j :: .ref (a + 1) :: r) s Q :=
  wpc_sta hf (Or.inl ⟨rfl, rfl, z, rfl, hs.symm⟩) ha hac hj hq
theorem wpc_staZ {z : Int32} (hf : fetch me.cd pc = some (.bastore, n)) (ha : P.al[a]? = some (1, N)) (hac : a < c) (hj : inb N j) (hs : sI s (a + 1) (ix j) (z &&& 1) = s') (hq : wpc P mi me c (pc + 1) ls r s' Q) : wpc P mi me c pc ls (.int z :: .int j :: .ref (a + 1) :: r) s Q :=
  wpc_sta hf (Or.inr (Or.inl ⟨rfl, rfl, z, rfl, hs.symm⟩)) ha hac hj hq
theorem wpc_staJ {z : Int64} (hf : fetch me.cd pc = some (.lastore, n)) (ha : P.al[a]? = some (2, N)) (hac : a < c) (hj : inb N j) (hs : sL s (a + 1) (ix j) z = s') (hq : wpc P mi me c (pc + 1) ls r s' Q) : wpc P mi me c pc ls (.long z :: .int j :: .ref (a + 1) :: r) s Q :=
  wpc_sta hf (Or.inr (Or.inr ⟨rfl, rfl, z, rfl, hs.symm⟩)) ha hac hj hq
theorem wpc_pl {i : Instr} {pc' : Nat} {ls' : Lv} {st st' : List Value} (hf : fetch me.cd pc = some (i, n)) (hi : ∀ (rt : Option Value → St → Rs) cl (k : Nat → Nat → Lv → List Value → St → Rs), cstep P mi me rt cl k i c pc ls st s = match pstep i pc ls st with | some (pc', ls', st') => k c pc' ls' st' s | none => none) (h : pstep i pc ls st = some (pc', ls', st')) (hq : wpc P mi me c pc' ls' st' s Q) : wpc P mi me c pc ls st s Q :=
  wpc_one hf (fun rt cl k => by rw [hi, h]) hq
theorem wpc_idiv {x y : Int32} (hf : fetch me.cd pc = some (.idiv, n)) (hy : ¬ y = 0) (hq : wpc P mi me c (pc + 1) ls (.int (x / y) :: r) s Q) : wpc P mi me c pc ls (.int y :: .int x :: r) s Q :=
  wpc_pl hf (fun _ _ _ => rfl) (by simp only [pstep, qstep]; rw [if_neg hy]) hq
theorem wpc_irem {x y : Int32} (hf : fetch me.cd pc = some (.irem, n)) (hy : ¬ y = 0) (hq : wpc P mi me c (pc + 1) ls (.int (x % y) :: r) s Q) : wpc P mi me c pc ls (.int y :: .int x :: r) s Q :=
  wpc_pl hf (fun _ _ _ => rfl) (by simp only [pstep, qstep]; rw [if_neg hy]) hq
theorem wpc_ldiv {x y : Int64} (hf : fetch me.cd pc = some (.ldiv, n)) (hy : ¬ y = 0) (hq : wpc P mi me c (pc + 1) ls (.long (x / y) :: r) s Q) : wpc P mi me c pc ls (.long y :: .long x :: r) s Q :=
  wpc_pl hf (fun _ _ _ => rfl) (by simp only [pstep, qstep]; rw [if_neg hy]) hq
end C
/-- the roads of a switch: one a value, from l on -/
def TS (x : Int32) (F : Int → Prop) : List Int → Int → Prop
  | [], _ => True
  | o :: r, l => (x.toInt = l → F o) ∧ TS x F r (l + 1)
theorem TS_at {x : Int32} {F : Int → Prop} : ∀ {os : List Int} {l : Int}, TS x F os l → l ≤ x.toInt → x.toInt < l + os.length → ∃ o, os[(x.toInt - l).toNat]? = some o ∧ F o := by
  intro os
  induction os with
  | nil => intro l _ h1 h2; simp at h2; omega
  | cons o r ih =>
    intro l h h1 h2
    by_cases e : x.toInt = l
    · exact ⟨o, by rw [e]; simp, h.1 e⟩
    · obtain ⟨o', q1, q2⟩ := ih h.2 (by omega) (by simp at h2; omega)
      refine ⟨o', ?_, q2⟩
      have : (x.toInt - l).toNat = (x.toInt - (l + 1)).toNat + 1 := by omega
      rw [this]; simpa using q1
theorem tsw_ok {x : Int32} {F : Int → Prop} {pc : Nat} {ls : Lv} {r : List Value} {d lo hi : Int} {offs : Array Int} (hd : 0 ≤ (pc : Int) + d) (ho : ∀ o ∈ offs.toList, 0 ≤ (pc : Int) + o) (hh : hi + 1 = lo + offs.toList.length)
    (h1 : TS x F offs.toList lo) (h2 : (x.toInt < lo ∨ x.toInt > hi) → F d) : ∃ o, F o ∧ pstep (.tableswitch d lo hi offs) pc ls (.int x :: r) = some (jmp pc o, ls, r) := by
  by_cases hx : x.toInt < lo ∨ x.toInt > hi
  · refine ⟨d, h2 hx, ?_⟩
    simp only [pstep, qstep]; rw [if_pos hx, if_pos hd]
  · obtain ⟨o, q1, q2⟩ := TS_at h1 (by omega) (by omega)
    have q3 : offs[(x.toInt - lo).toNat]? = some o := by rw [← Array.getElem?_toList]; exact q1
    refine ⟨o, q2, ?_⟩
    simp only [pstep, qstep]; rw [if_neg hx, q3]; dsimp only; rw [if_pos (ho o (List.mem_of_getElem? q1))]
theorem wpc_tsw {P : Cl} {mi : Nat} {me : Me} {c pc n : Nat} {ls : Lv} {r : List Value} {s : St} {Q : Option Value → St → Prop} {x : Int32} {d lo hi : Int} {offs : Array Int} (hf : fetch me.cd pc = some (.tableswitch d lo hi offs, n)) (hd : 0 ≤ (pc : Int) + d) (ho : ∀ o ∈ offs.toList, 0 ≤ (pc : Int) + o) (hh : hi + 1 = lo + offs.toList.length)
    (h1 : TS x (fun o => wpc P mi me c (jmp pc o) ls r s Q) offs.toList lo) (h2 : (x.toInt < lo ∨ x.toInt > hi) → wpc P mi me c (jmp pc d) ls r s Q) : wpc P mi me c pc ls (.int x :: r) s Q := by
  obtain ⟨o, q1, q2⟩ := tsw_ok (ls := ls) (r := r) hd ho hh h1 h2
  exact wpc_pl hf (fun _ _ _ => rfl) q2 q1
section L
variable {P : Cl} {Q : Lw} {sc : Sc} {mi : Nat} {me : Me} {pc n : Nat} {ls : Lv} {r : List Value} {w : Wd} {R : Option Value → Wd → Prop}
theorem wpl_pl {i : Instr} {pc' : Nat} {ls' : Lv} {st st' : List Value} (hf : fetch me.cd pc = some (i, n)) (hi : isPl i = true) (h : pstep i pc ls st = some (pc', ls', st')) (hq : wpl P Q sc mi me pc' ls' st' w R) : wpl P Q sc mi me pc ls st w R :=
  wpl_one hf (fun rt cc cl k => by rw [lstep_pl hi, h]) hq
theorem wpl_idiv {x y : Int32} (hf : fetch me.cd pc = some (.idiv, n)) (hy : ¬ y = 0) (hq : wpl P Q sc mi me (pc + 1) ls (.int (x / y) :: r) w R) : wpl P Q sc mi me pc ls (.int y :: .int x :: r) w R :=
  wpl_pl hf rfl (by simp only [pstep, qstep]; rw [if_neg hy]) hq
theorem wpl_irem {x y : Int32} (hf : fetch me.cd pc = some (.irem, n)) (hy : ¬ y = 0) (hq : wpl P Q sc mi me (pc + 1) ls (.int (x % y) :: r) w R) : wpl P Q sc mi me pc ls (.int y :: .int x :: r) w R :=
  wpl_pl hf rfl (by simp only [pstep, qstep]; rw [if_neg hy]) hq
theorem wpl_ldiv {x y : Int64} (hf : fetch me.cd pc = some (.ldiv, n)) (hy : ¬ y = 0) (hq : wpl P Q sc mi me (pc + 1) ls (.long (x / y) :: r) w R) : wpl P Q sc mi me pc ls (.long y :: .long x :: r) w R :=
  wpl_pl hf rfl (by simp only [pstep, qstep]; rw [if_neg hy]) hq
theorem wpl_tsw {x : Int32} {d lo hi : Int} {offs : Array Int} (hf : fetch me.cd pc = some (.tableswitch d lo hi offs, n)) (hd : 0 ≤ (pc : Int) + d) (ho : ∀ o ∈ offs.toList, 0 ≤ (pc : Int) + o) (hh : hi + 1 = lo + offs.toList.length)
    (h1 : TS x (fun o => wpl P Q sc mi me (jmp pc o) ls r w R) offs.toList lo) (h2 : (x.toInt < lo ∨ x.toInt > hi) → wpl P Q sc mi me (jmp pc d) ls r w R) : wpl P Q sc mi me pc ls (.int x :: r) w R := by
  obtain ⟨o, q1, q2⟩ := tsw_ok (ls := ls) (r := r) hd ho hh h1 h2
  exact wpl_pl hf rfl q2 q1
end L
/-! the links, by lists -/
def AllA {α : Type} (Q : Nat → α → Prop) : List (Nat × α) → Prop
  | [] => True
  | (a, b) :: r => Q a b ∧ AllA Q r
theorem asc_all {α : Type} {Q : Nat → α → Prop} {l : List (Nat × α)} (h : AllA Q l) : ∀ k v, asc l k = some v → Q k v := by
  induction l with
  | nil => intro k v e; cases e
  | cons x r ih =>
    intro k v e
    obtain ⟨a, b⟩ := x
    simp only [asc] at e
    cases q : Nat.beq a k
    · rw [q] at e; exact ih h.2 k v e
    · rw [q] at e; cases e
      obtain rfl := Nat.eq_of_beq_eq_true q
      exact h.1
def AllL (Q : Nat → Nat → Prop) : List (Nat × Nat) → Prop
  | [] => True
  | (a, b) :: r => Q a b ∧ AllL Q r
theorem lst_all {Q : Nat → Nat → Prop} {l : List (Nat × Nat)} (h : AllL Q l) : ∀ (j tt N : Nat), l[j]? = some (tt, N) → Q tt N := by
  induction l with
  | nil => intro j tt N e; simp at e
  | cons x r ih =>
    intro j tt N e
    obtain ⟨a, b⟩ := x
    cases j with
    | zero => simp at e; obtain ⟨rfl, rfl⟩ := e; exact h.1
    | succ j => simp at e; exact ih h.2 j tt N e
def dst1 (k : Nat) (fe : Fe) : List (Nat × Fe) → Bool
  | [] => true
  | (k', fe') :: r => (!(fe.1 == fe'.1)) && (decide (fe.2.2.1 < 3) || !(Nat.beq fe.2.2.1 fe'.2.2.1)) && dst1 k fe r
def dst : List (Nat × Fe) → Bool
  | [] => true
  | (k, fe) :: r => dst1 k fe r && dst r
theorem dst1_ok {k : Nat} {fe : Fe} {l : List (Nat × Fe)} (h : dst1 k fe l = true) : ∀ k' fe', asc l k' = some fe' → fe.1 ≠ fe'.1 ∧ (3 ≤ fe.2.2.1 → fe.2.2.1 ≠ fe'.2.2.1) := by
  induction l with
  | nil => intro k' fe' e; cases e
  | cons x r ih =>
    intro k' fe' e
    obtain ⟨a, b⟩ := x
    simp only [dst1, Bool.and_eq_true] at h
    obtain ⟨⟨h1, h2⟩, h3⟩ := h
    simp only [asc] at e
    cases q : Nat.beq a k'
    · rw [q] at e; exact ih h3 k' fe' e
    · rw [q] at e; cases e
      refine ⟨fun q2 => by rw [q2] at h1; simp at h1, fun q2 q3 => ?_⟩
      rw [q3] at h2 q2
      simp only [Bool.or_eq_true, decide_eq_true_eq, Bool.not_eq_true'] at h2
      rcases h2 with h2 | h2
      · omega
      · rw [Nat.beq_refl] at h2; cases h2
theorem dst_ok {l : List (Nat × Fe)} (h : dst l = true) : ∀ (k k' : Nat) (fe fe' : Fe), asc l k = some fe → asc l k' = some fe' → k ≠ k' → fe.1 ≠ fe'.1 ∧ (3 ≤ fe.2.2.1 → fe.2.2.1 ≠ fe'.2.2.1) := by
  induction l with
  | nil => intro k k' fe fe' e; cases e
  | cons x r ih =>
    intro k k' fe fe' e e' hne
    obtain ⟨a, b⟩ := x
    simp only [dst, Bool.and_eq_true] at h
    simp only [asc] at e e'
    cases q : Nat.beq a k <;> cases q' : Nat.beq a k' <;> rw [q] at e <;> rw [q'] at e'
    · exact ih h.2 k k' fe fe' e e' hne
    · cases e'
      obtain ⟨h1, h2⟩ := dst1_ok h.1 k fe e
      exact ⟨Ne.symm h1, fun z1 z2 => h2 (z2 ▸ z1) z2.symm⟩
    · cases e; exact dst1_ok h.1 k' fe' e'
    · exact absurd ((Nat.eq_of_beq_eq_true q).symm.trans (Nat.eq_of_beq_eq_true q')) hne
def chk (bytes : ByteArray) : Cd → Bool
  | [] => true
  | (pc, i, n) :: r => (match decode bytes pc with | .ok (i', n') => decide (i' = i ∧ n' = n) | .error _ => false) && (isSw i || Nat.beq n (ilen i)) && chk bytes r
theorem chk_ok {bytes : ByteArray} {cd : Cd} (h : chk bytes cd = true) : ∀ pc i n, fetch cd pc = some (i, n) → decode bytes pc = .ok (i, n) ∧ (isSw i = true ∨ n = ilen i) := by
  induction cd with
  | nil => intro pc i n e; cases e
  | cons x r ih =>
    intro pc i n e
    obtain ⟨a, i', n'⟩ := x
    simp only [chk, Bool.and_eq_true] at h
    obtain ⟨⟨h1, h2⟩, h3⟩ := h
    simp only [fetch] at e
    cases q : Nat.beq a pc
    · rw [q] at e; exact ih h3 pc i n e
    · rw [q] at e; cases e
      obtain rfl := Nat.eq_of_beq_eq_true q
      refine ⟨?_, ?_⟩
      · split at h1
        · rename_i i2 n2 hd
          obtain ⟨rfl, rfl⟩ := of_decide_eq_true h1
          exact hd
        · cases h1
      · simp only [Bool.or_eq_true] at h2
        exact h2.imp id Nat.eq_of_beq_eq_true
/-- the array that the law is handed -/
theorem script_of {s : State} {args : Array Value} {a : Addr} {cl : Cell} {t : Term} {k : Int32} (hf : Fit s) (A : Arr s s.heap a cl .int) (ev : t.eval args s none [] s = some (.ref a)) (hl : (Cond.le (Term.length t) (Term.int k)).value args s none s [] = some true) :
    (cl.slots.size < 2 ^ 31 ∧ (cl.slots.size : Int) ≤ k.toInt) ∧ SRep s s.heap a s.heap.size (some (cl.slots.size, fun i => match cl.slots[i]? with | some (.int x) => x | _ => 0)) := by
  obtain ⟨x, y, h1, h2, -⟩ := cmp_v (Or.inr (Or.inr hl))
  have hz : cl.slots.size < 2 ^ 31 := by
    have q : (Term.length t).eval args s none [] s = if cl.slots.size < 2 ^ 31 then some (.int cl.slots.size.toInt32) else none := by simp [Term.eval, ev, A.fin (Vm.Alike.refl _)]
    rw [h1] at q
    split at q
    · assumption
    · cases q
  have h1' := len_f ev (A.fin (Vm.Alike.refl _)) hz (args := args) (first := s) (o := none) (idx := [])
  have hle := gotT (Cond.le_ints h1' (Term.int_eval k)) hl
  rw [Int32.le_iff_toInt_le, len_toInt hz] at hle
  refine ⟨⟨hz, hle⟩, A.lt, cl, A, rfl, fun i hi => ?_⟩
  have e1 : cl.slots[i]? = some cl.slots[i] := Array.getElem?_eq_getElem hi
  have q := elem_fit hf A (j := i.toInt32) (idx_in hi hz)
  have e2 : i.toInt32.toNatClampNeg = i := by
    have := len_toInt (n := i) (by omega)
    simp only [Int32.toNatClampNeg, this]; rfl
  rw [e2] at q
  obtain ⟨v, hv, hfv⟩ := q
  obtain ⟨x, rfl⟩ := fit_I hfv (Or.inl rfl)
  rw [hv]
  dsimp only
  rw [hv]
end Jvm.LM
namespace Jvm.LM
theorem law_run {P : Cl} {Q : Lw} {sc : Sc} {as : List Value} (h : lalI P Q sc 0 as W0 fun v _ => v = 1) {me : Me} (hme : asc Q.ms 0 = some me) : ∃ f w', lexec P Q sc f 0 me 0 (lay as me.ml) [] W0 = some (some (.int 1), w') := by
  obtain ⟨f, v, w', h1, v', rfl, rfl⟩ := h
  refine ⟨f, w', ?_⟩
  simp only [lcall, hme] at h1
  split at h1
  · exact h1
  · cases h1
end Jvm.LM

namespace Jvm.LM
open Jvm.RoadKit
/-! numbers -/
theorem i32_add {x y : Int32} (h1 : -2147483648 ≤ x.toInt + y.toInt) (h2 : x.toInt + y.toInt < 2147483648) : (x + y).toInt = x.toInt + y.toInt := by
  have := c_iadd x y; have := rng32 (x + y); omega
theorem i32_sub {x y : Int32} (h1 : -2147483648 ≤ x.toInt - y.toInt) (h2 : x.toInt - y.toInt < 2147483648) : (x - y).toInt = x.toInt - y.toInt := by
  have := c_isub x y; have := rng32 (x - y); omega
theorem i32_mul {x y : Int32} (h1 : -2147483648 ≤ x.toInt * y.toInt) (h2 : x.toInt * y.toInt < 2147483648) : (x * y).toInt = x.toInt * y.toInt := by
  have := c_imul x y; have := rng32 (x * y); omega
theorem ix_int {i : Int32} (h : 0 ≤ i.toInt) : (ix i : Int) = i.toInt := by simp only [ix, Int32.toNatClampNeg]; omega
theorem ix_inj {i j : Int32} (hi : 0 ≤ i.toInt) (hj : 0 ≤ j.toInt) : ix i = ix j ↔ i = j := by
  have a := ix_int hi; have b := ix_int hj
  rw [← Int32.toInt_inj]; omega
theorem i32_lt {x y : Int32} : x < y ↔ x.toInt < y.toInt := Int32.lt_iff_toInt_lt
theorem i32_eq {x y : Int32} : x = y ↔ x.toInt = y.toInt := Int32.toInt_inj.symm
/-- a loop that counts up to N: from the next turn to this one -/
theorem loop_up {F : Int32 → Prop} (N : Int) (hN : N < 2147483647) (step : ∀ i, 0 ≤ i.toInt → i.toInt < N → (i + 1).toInt = i.toInt + 1 → F (i + 1) → F i) (last : ∀ i, i.toInt = N → F i) : ∀ i, 0 ≤ i.toInt → i.toInt ≤ N → F i := by
  have key : ∀ n : Nat, ∀ i : Int32, 0 ≤ i.toInt → i.toInt + n = N → F i := by
    intro n
    induction n with
    | zero => intro i h0 h1; exact last i (by omega)
    | succ n ih =>
      intro i h0 h1
      have e : (i + 1).toInt = i.toInt + 1 := i32_add (by simp; omega) (by simp; omega)
      exact step i h0 (by omega) e (ih (i + 1) (by omega) (by omega))
  intro i h0 h1
  exact key (N - i.toInt).toNat i h0 (by omega)
theorem cmpL_lt {x y : Int64} : Jvm.Free.XT.cmpL x y < 0 ↔ x < y := by
  unfold Jvm.Free.XT.cmpL; split
  · rename_i h; exact ⟨fun q => absurd q (by decide), fun q => by rw [Int64.lt_iff_toInt_lt] at h q; omega⟩
  · split
    · rename_i h; subst h; exact ⟨fun q => absurd q (by decide), fun q => by rw [Int64.lt_iff_toInt_lt] at q; omega⟩
    · rename_i h1 h2
      refine ⟨fun _ => ?_, fun _ => by decide⟩
      rw [Int64.lt_iff_toInt_lt] at h1 ⊢; rw [← Int64.toInt_inj] at h2; omega
theorem cmpL_gt {x y : Int64} : 0 < Jvm.Free.XT.cmpL x y ↔ y < x := by
  unfold Jvm.Free.XT.cmpL; split
  · rename_i h; exact ⟨fun _ => h, fun _ => by decide⟩
  · rename_i h; split
    · exact ⟨fun q => absurd q (by decide), fun q => absurd q h⟩
    · exact ⟨fun q => absurd q (by decide), fun q => absurd q h⟩
theorem cmpL_eq {x y : Int64} : Jvm.Free.XT.cmpL x y = 0 ↔ x = y := by
  unfold Jvm.Free.XT.cmpL; split
  · rename_i h; exact ⟨fun q => absurd q (by decide), fun q => by subst q; rw [Int64.lt_iff_toInt_lt] at h; omega⟩
  · split
    · rename_i h; exact ⟨fun _ => h, fun _ => rfl⟩
    · rename_i h1 h2; exact ⟨fun q => absurd q (by decide), fun q => absurd q h2⟩
end Jvm.LM

namespace Jvm.Pilot.@@N@@
open Jvm Jvm.ClassFile Sem Op Lib Jvm.Free Jvm.Stand Jvm.LawKit Jvm.RoadKit Jvm.LM Bundle Jvm.Pilot.@@N@@.Jvm.D
def cm0 : Me := ("<init>", "(III)V", 3, 0, [(0, .aload_n 0, 1), (1, .invokespecial 1, 3), (4, .aload_n 0, 1), (5, .iconst 4, 1), (6, .newarray .int, 2), (8, .putfield 7, 3), (11, .aload_n 0, 1), (12, .bipush 8, 2), (14, .newarray .int, 2), (16, .putfield 13, 3), (19, .aload_n 0, 1), (20, .bipush 8, 2), (22, .newarray .int, 2), (24, .putfield 16, 3), (27, .aload_n 0, 1), (28, .bipush 8, 2), (30, .newarray .int, 2), (32, .putfield 19, 3), (35, .aload_n 0, 1), (36, .bipush 8, 2), (38, .newarray .boolean, 2), (40, .putfield 22, 3), (43, .aload_n 0, 1), (44, .bipush 8, 2), (46, .newarray .int, 2), (48, .putfield 26, 3), (51, .aload_n 0, 1), (52, .bipush 8, 2), (54, .newarray .int, 2), (56, .putfield 29, 3), (59, .aload_n 0, 1), (60, .bipush 8, 2), (62, .newarray .int, 2), (64, .putfield 32, 3), (67, .aload_n 0, 1), (68, .bipush 48, 2), (70, .newarray .int, 2), (72, .putfield 35, 3), (75, .aload_n 0, 1), (76, .bipush 48, 2), (78, .newarray .int, 2), (80, .putfield 38, 3), (83, .aload_n 0, 1), (84, .bipush 48, 2), (86, .newarray .int, 2), (88, .putfield 41, 3), (91, .aload_n 0, 1), (92, .bipush 48, 2), (94, .newarray .int, 2), (96, .putfield 44, 3), (99, .aload_n 0, 1), (100, .iload_n 1, 1), (101, .iconst 0, 1), (102, .sipush 500, 3), (105, .invokevirtual 47, 3), (108, .istore 4, 2), (110, .iconst 0, 1), (111, .istore 5, 2), (113, .iload 5, 2), (115, .iconst 4, 1), (116, .if_icmp .ge 18, 3), (119, .aload_n 0, 1), (120, .getfield 7, 3), (123, .iload 5, 2), (125, .iload 4, 2), (127, .iastore, 1), (128, .iinc 5 1, 3), (131, .goto (-18), 3), (134, .aload_n 0, 1), (135, .aload_n 0, 1), (136, .iload_n 2, 1), (137, .iconst 0, 1), (138, .iconst 5, 1), (139, .invokevirtual 47, 3), (142, .putfield 51, 3), (145, .aload_n 0, 1), (146, .aload_n 0, 1), (147, .iload_n 3, 1), (148, .iconst 1, 1), (149, .bipush 8, 2), (151, .invokevirtual 47, 3), (154, .putfield 55, 3), (157, .aload_n 0, 1), (158, .iconst 1, 1), (159, .putfield 58, 3), (162, .aload_n 0, 1), (163, .iconst 0, 1), (164, .putfield 62, 3), (167, .return_, 1)], 6, 1, 16)
def cm2 : Me := ("beginSaga", "()I", 0, 1, [(0, .aload_n 0, 1), (1, .getfield 58, 3), (4, .ifCond .ne 5, 3), (7, .iconst (-1), 1), (8, .ireturn, 1), (9, .aload_n 0, 1), (10, .getfield 62, 3), (13, .aload_n 0, 1), (14, .getfield 55, 3), (17, .if_icmp .lt 5, 3), (20, .iconst (-1), 1), (21, .ireturn, 1), (22, .aload_n 0, 1), (23, .getfield 62, 3), (26, .istore_n 1, 1), (27, .iload_n 1, 1), (28, .ifCond .lt 9, 3), (31, .iload_n 1, 1), (32, .bipush 7, 2), (34, .if_icmp .le 5, 3), (37, .iconst (-1), 1), (38, .ireturn, 1), (39, .aload_n 0, 1), (40, .getfield 13, 3), (43, .iload_n 1, 1), (44, .iconst 1, 1), (45, .iastore, 1), (46, .aload_n 0, 1), (47, .getfield 16, 3), (50, .iload_n 1, 1), (51, .iconst 0, 1), (52, .iastore, 1), (53, .aload_n 0, 1), (54, .getfield 19, 3), (57, .iload_n 1, 1), (58, .iconst 0, 1), (59, .iastore, 1), (60, .aload_n 0, 1), (61, .iload_n 1, 1), (62, .invokevirtual 65, 3), (65, .aload_n 0, 1), (66, .aload_n 0, 1), (67, .getfield 62, 3), (70, .iconst 1, 1), (71, .iadd, 1), (72, .putfield 62, 3), (75, .iload_n 1, 1), (76, .ireturn, 1)], 2, 1, 13)
def cm3 : Me := ("addStep", "(III)I", 3, 1, [(0, .aload_n 0, 1), (1, .getfield 58, 3), (4, .ifCond .ne 5, 3), (7, .iconst (-1), 1), (8, .ireturn, 1), (9, .aload_n 0, 1), (10, .iload_n 1, 1), (11, .invokevirtual 69, 3), (14, .ifCond .ne 5, 3), (17, .iconst (-1), 1), (18, .ireturn, 1), (19, .aload_n 0, 1), (20, .getfield 13, 3), (23, .iload_n 1, 1), (24, .iaload, 1), (25, .iconst 1, 1), (26, .if_icmp .eq 5, 3), (29, .iconst (-1), 1), (30, .ireturn, 1), (31, .iload_n 2, 1), (32, .ifCond .lt 8, 3), (35, .iload_n 2, 1), (36, .iconst 3, 1), (37, .if_icmp .le 5, 3), (40, .iconst (-1), 1), (41, .ireturn, 1), (42, .iload_n 3, 1), (43, .iconst 1, 1), (44, .if_icmp .lt 9, 3), (47, .iload_n 3, 1), (48, .bipush 100, 2), (50, .if_icmp .le 5, 3), (53, .iconst (-1), 1), (54, .ireturn, 1), (55, .aload_n 0, 1), (56, .getfield 16, 3), (59, .iload_n 1, 1), (60, .iaload, 1), (61, .bipush 6, 2), (63, .if_icmp .lt 5, 3), (66, .iconst (-1), 1), (67, .ireturn, 1), (68, .aload_n 0, 1), (69, .iload_n 1, 1), (70, .iload_n 2, 1), (71, .iload_n 3, 1), (72, .invokevirtual 73, 3), (75, .ireturn, 1)], 4, 2, 31)
def cm4 : Me := ("startSaga", "(I)Z", 1, 2, [(0, .aload_n 0, 1), (1, .getfield 58, 3), (4, .ifCond .ne 5, 3), (7, .iconst 0, 1), (8, .ireturn, 1), (9, .aload_n 0, 1), (10, .iload_n 1, 1), (11, .invokevirtual 69, 3), (14, .ifCond .ne 5, 3), (17, .iconst 0, 1), (18, .ireturn, 1), (19, .aload_n 0, 1), (20, .getfield 13, 3), (23, .iload_n 1, 1), (24, .iaload, 1), (25, .iconst 1, 1), (26, .if_icmp .eq 5, 3), (29, .iconst 0, 1), (30, .ireturn, 1), (31, .aload_n 0, 1), (32, .getfield 16, 3), (35, .iload_n 1, 1), (36, .iaload, 1), (37, .ifCond .ne 5, 3), (40, .iconst 0, 1), (41, .ireturn, 1), (42, .aload_n 0, 1), (43, .getfield 13, 3), (46, .iload_n 1, 1), (47, .iconst 2, 1), (48, .iastore, 1), (49, .aload_n 0, 1), (50, .getfield 41, 3), (53, .aload_n 0, 1), (54, .iload_n 1, 1), (55, .iconst 0, 1), (56, .invokevirtual 76, 3), (59, .iconst 1, 1), (60, .iastore, 1), (61, .aload_n 0, 1), (62, .getfield 19, 3), (65, .iload_n 1, 1), (66, .iconst 0, 1), (67, .iastore, 1), (68, .iconst 1, 1), (69, .ireturn, 1)], 2, 1, 15)
def cm5 : Me := ("deliver", "(I)I", 1, 1, [(0, .aload_n 0, 1), (1, .getfield 58, 3), (4, .ifCond .ne 5, 3), (7, .iconst (-1), 1), (8, .ireturn, 1), (9, .aload_n 0, 1), (10, .iload_n 1, 1), (11, .invokevirtual 69, 3), (14, .ifCond .ne 5, 3), (17, .iconst (-1), 1), (18, .ireturn, 1), (19, .aload_n 0, 1), (20, .iload_n 1, 1), (21, .invokevirtual 80, 3), (24, .istore_n 2, 1), (25, .iload_n 2, 1), (26, .ifCond .ge 5, 3), (29, .iconst (-1), 1), (30, .ireturn, 1), (31, .aload_n 0, 1), (32, .iload_n 1, 1), (33, .invokevirtual 84, 3), (36, .istore_n 3, 1), (37, .aload_n 0, 1), (38, .iload_n 1, 1), (39, .iload_n 2, 1), (40, .iload_n 3, 1), (41, .invokevirtual 87, 3), (44, .istore 4, 2), (46, .aload_n 0, 1), (47, .iload_n 3, 1), (48, .iload 4, 2), (50, .invokevirtual 90, 3), (53, .istore 5, 2), (55, .aload_n 0, 1), (56, .iload_n 1, 1), (57, .iload_n 2, 1), (58, .iload_n 3, 1), (59, .iload 5, 2), (61, .invokevirtual 93, 3), (64, .iload 4, 2), (66, .ireturn, 1)], 6, 2, 31)
def cm6 : Me := ("redeliver", "(III)I", 3, 1, [(0, .aload_n 0, 1), (1, .iload_n 1, 1), (2, .invokevirtual 69, 3), (5, .ifCond .ne 5, 3), (8, .iconst (-1), 1), (9, .ireturn, 1), (10, .aload_n 0, 1), (11, .iload_n 1, 1), (12, .iload_n 2, 1), (13, .invokevirtual 97, 3), (16, .ifCond .ne 5, 3), (19, .iconst (-1), 1), (20, .ireturn, 1), (21, .iload_n 3, 1), (22, .iconst 1, 1), (23, .if_icmp .eq 10, 3), (26, .iload_n 3, 1), (27, .iconst 2, 1), (28, .if_icmp .eq 5, 3), (31, .iconst (-1), 1), (32, .ireturn, 1), (33, .aload_n 0, 1), (34, .iload_n 1, 1), (35, .iload_n 2, 1), (36, .iload_n 3, 1), (37, .invokevirtual 101, 3), (40, .ifCond .ne 5, 3), (43, .iconst (-1), 1), (44, .ireturn, 1), (45, .aload_n 0, 1), (46, .iload_n 1, 1), (47, .iload_n 2, 1), (48, .iload_n 3, 1), (49, .invokevirtual 87, 3), (52, .ireturn, 1)], 4, 2, 31)
def cm7 : Me := ("receive", "(I)I", 1, 1, [(0, .aload_n 0, 1), (1, .getfield 58, 3), (4, .ifCond .ne 5, 3), (7, .iconst (-1), 1), (8, .ireturn, 1), (9, .aload_n 0, 1), (10, .iload_n 1, 1), (11, .invokevirtual 69, 3), (14, .ifCond .ne 5, 3), (17, .iconst (-1), 1), (18, .ireturn, 1), (19, .aload_n 0, 1), (20, .getfield 22, 3), (23, .iload_n 1, 1), (24, .baload, 1), (25, .ifCond .ne 5, 3), (28, .iconst (-1), 1), (29, .ireturn, 1), (30, .aload_n 0, 1), (31, .getfield 22, 3), (34, .iload_n 1, 1), (35, .iconst 0, 1), (36, .bastore, 1), (37, .aload_n 0, 1), (38, .iload_n 1, 1), (39, .invokevirtual 80, 3), (42, .istore_n 2, 1), (43, .iload_n 2, 1), (44, .ifCond .ge 5, 3), (47, .iconst 0, 1), (48, .ireturn, 1), (49, .aload_n 0, 1), (50, .iload_n 1, 1), (51, .invokevirtual 84, 3), (54, .istore_n 3, 1), (55, .aload_n 0, 1), (56, .getfield 26, 3), (59, .iload_n 1, 1), (60, .iaload, 1), (61, .iload_n 2, 1), (62, .if_icmp .ne 13, 3), (65, .aload_n 0, 1), (66, .getfield 29, 3), (69, .iload_n 1, 1), (70, .iaload, 1), (71, .iload_n 3, 1), (72, .if_icmp .eq 5, 3), (75, .iconst 0, 1), (76, .ireturn, 1), (77, .iload_n 3, 1), (78, .iconst 1, 1), (79, .if_icmp .ne 30, 3), (82, .aload_n 0, 1), (83, .getfield 32, 3), (86, .iload_n 1, 1), (87, .iaload, 1), (88, .ifCond .ne 12, 3), (91, .aload_n 0, 1), (92, .iload_n 1, 1), (93, .iload_n 2, 1), (94, .invokevirtual 105, 3), (97, .goto 18, 3), (100, .aload_n 0, 1), (101, .iload_n 1, 1), (102, .iload_n 2, 1), (103, .invokevirtual 109, 3), (106, .goto 9, 3), (109, .aload_n 0, 1), (110, .iload_n 1, 1), (111, .iload_n 2, 1), (112, .invokevirtual 112, 3), (115, .aload_n 0, 1), (116, .getfield 13, 3), (119, .iload_n 1, 1), (120, .iaload, 1), (121, .ireturn, 1)], 4, 4, 58)
def cm8 : Me := ("timeout", "(I)I", 1, 1, [(0, .aload_n 0, 1), (1, .getfield 58, 3), (4, .ifCond .ne 5, 3), (7, .iconst (-1), 1), (8, .ireturn, 1), (9, .aload_n 0, 1), (10, .iload_n 1, 1), (11, .invokevirtual 69, 3), (14, .ifCond .ne 5, 3), (17, .iconst (-1), 1), (18, .ireturn, 1), (19, .aload_n 0, 1), (20, .iload_n 1, 1), (21, .invokevirtual 80, 3), (24, .istore_n 2, 1), (25, .iload_n 2, 1), (26, .ifCond .ge 5, 3), (29, .iconst (-1), 1), (30, .ireturn, 1), (31, .aload_n 0, 1), (32, .iload_n 1, 1), (33, .invokevirtual 84, 3), (36, .iconst 2, 1), (37, .if_icmp .ne 19, 3), (40, .aload_n 0, 1), (41, .getfield 19, 3), (44, .iload_n 1, 1), (45, .aload_n 0, 1), (46, .getfield 19, 3), (49, .iload_n 1, 1), (50, .iaload, 1), (51, .iconst 1, 1), (52, .iadd, 1), (53, .iastore, 1), (54, .iconst 1, 1), (55, .ireturn, 1), (56, .aload_n 0, 1), (57, .getfield 19, 3), (60, .iload_n 1, 1), (61, .iaload, 1), (62, .aload_n 0, 1), (63, .getfield 51, 3), (66, .if_icmp .ge 19, 3), (69, .aload_n 0, 1), (70, .getfield 19, 3), (73, .iload_n 1, 1), (74, .aload_n 0, 1), (75, .getfield 19, 3), (78, .iload_n 1, 1), (79, .iaload, 1), (80, .iconst 1, 1), (81, .iadd, 1), (82, .iastore, 1), (83, .iconst 1, 1), (84, .ireturn, 1), (85, .aload_n 0, 1), (86, .iload_n 1, 1), (87, .iload_n 2, 1), (88, .invokevirtual 115, 3), (91, .iconst 2, 1), (92, .ireturn, 1)], 3, 2, 31)
def cm9 : Me := ("crash", "()Z", 0, 2, [(0, .aload_n 0, 1), (1, .getfield 58, 3), (4, .ifCond .ne 5, 3), (7, .iconst 0, 1), (8, .ireturn, 1), (9, .aload_n 0, 1), (10, .iconst 0, 1), (11, .putfield 58, 3), (14, .iconst 0, 1), (15, .istore_n 1, 1), (16, .iload_n 1, 1), (17, .bipush 8, 2), (19, .if_icmp .ge 21, 3), (22, .aload_n 0, 1), (23, .iload_n 1, 1), (24, .invokevirtual 65, 3), (27, .aload_n 0, 1), (28, .getfield 19, 3), (31, .iload_n 1, 1), (32, .iconst 0, 1), (33, .iastore, 1), (34, .iinc 1 1, 3), (37, .goto (-21), 3), (40, .iconst 1, 1), (41, .ireturn, 1)], 2, 1, 13)
def cm10 : Me := ("recover", "()Z", 0, 2, [(0, .aload_n 0, 1), (1, .getfield 58, 3), (4, .ifCond .eq 5, 3), (7, .iconst 0, 1), (8, .ireturn, 1), (9, .aload_n 0, 1), (10, .iconst 1, 1), (11, .putfield 58, 3), (14, .iconst 0, 1), (15, .istore_n 1, 1), (16, .iload_n 1, 1), (17, .bipush 8, 2), (19, .if_icmp .ge 21, 3), (22, .aload_n 0, 1), (23, .getfield 19, 3), (26, .iload_n 1, 1), (27, .iconst 0, 1), (28, .iastore, 1), (29, .aload_n 0, 1), (30, .iload_n 1, 1), (31, .invokevirtual 65, 3), (34, .iinc 1 1, 3), (37, .goto (-21), 3), (40, .iconst 1, 1), (41, .ireturn, 1)], 2, 1, 13)
def cm11 : Me := ("getSagaStatus", "(I)I", 1, 1, [(0, .aload_n 0, 1), (1, .iload_n 1, 1), (2, .invokevirtual 69, 3), (5, .ifCond .ne 5, 3), (8, .iconst (-1), 1), (9, .ireturn, 1), (10, .aload_n 0, 1), (11, .getfield 13, 3), (14, .iload_n 1, 1), (15, .iaload, 1), (16, .ireturn, 1)], 2, 1, 13)
def cm12 : Me := ("getStepCount", "(I)I", 1, 1, [(0, .aload_n 0, 1), (1, .iload_n 1, 1), (2, .invokevirtual 69, 3), (5, .ifCond .ne 5, 3), (8, .iconst (-1), 1), (9, .ireturn, 1), (10, .aload_n 0, 1), (11, .getfield 16, 3), (14, .iload_n 1, 1), (15, .iaload, 1), (16, .ireturn, 1)], 2, 1, 13)
def cm13 : Me := ("getStepState", "(II)I", 2, 1, [(0, .aload_n 0, 1), (1, .iload_n 1, 1), (2, .invokevirtual 69, 3), (5, .ifCond .ne 5, 3), (8, .iconst (-1), 1), (9, .ireturn, 1), (10, .aload_n 0, 1), (11, .iload_n 1, 1), (12, .iload_n 2, 1), (13, .invokevirtual 97, 3), (16, .ifCond .ne 5, 3), (19, .iconst (-1), 1), (20, .ireturn, 1), (21, .aload_n 0, 1), (22, .getfield 41, 3), (25, .aload_n 0, 1), (26, .iload_n 1, 1), (27, .iload_n 2, 1), (28, .invokevirtual 76, 3), (31, .iaload, 1), (32, .ireturn, 1)], 3, 1, 15)
def cm14 : Me := ("getEntry", "(II)I", 2, 1, [(0, .aload_n 0, 1), (1, .iload_n 1, 1), (2, .invokevirtual 69, 3), (5, .ifCond .ne 5, 3), (8, .iconst (-1), 1), (9, .ireturn, 1), (10, .aload_n 0, 1), (11, .iload_n 1, 1), (12, .iload_n 2, 1), (13, .invokevirtual 97, 3), (16, .ifCond .ne 5, 3), (19, .iconst (-1), 1), (20, .ireturn, 1), (21, .aload_n 0, 1), (22, .getfield 44, 3), (25, .aload_n 0, 1), (26, .iload_n 1, 1), (27, .iload_n 2, 1), (28, .invokevirtual 76, 3), (31, .iaload, 1), (32, .ireturn, 1)], 3, 1, 15)
def cm15 : Me := ("getTotal", "(I)I", 1, 1, [(0, .iload_n 1, 1), (1, .ifCond .lt 8, 3), (4, .iload_n 1, 1), (5, .iconst 3, 1), (6, .if_icmp .le 5, 3), (9, .iconst (-1), 1), (10, .ireturn, 1), (11, .aload_n 0, 1), (12, .getfield 7, 3), (15, .iload_n 1, 1), (16, .iaload, 1), (17, .ireturn, 1)], 2, 0, 0)
def cm18 : Me := ("clamp", "(III)I", 3, 1, [(0, .iload_n 1, 1), (1, .iload_n 2, 1), (2, .if_icmp .ge 5, 3), (5, .iload_n 2, 1), (6, .ireturn, 1), (7, .iload_n 1, 1), (8, .iload_n 3, 1), (9, .if_icmp .le 5, 3), (12, .iload_n 3, 1), (13, .ireturn, 1), (14, .iload_n 1, 1), (15, .ireturn, 1)], 4, 0, 0)
def cm19 : Me := ("isValidSaga", "(I)Z", 1, 2, [(0, .iload_n 1, 1), (1, .ifCond .lt 13, 3), (4, .iload_n 1, 1), (5, .bipush 7, 2), (7, .if_icmp .gt 7, 3), (10, .iconst 1, 1), (11, .goto 4, 3), (14, .iconst 0, 1), (15, .ireturn, 1)], 2, 0, 0)
def cm20 : Me := ("isValidStep", "(II)Z", 2, 2, [(0, .iload_n 2, 1), (1, .ifCond .lt 23, 3), (4, .iload_n 2, 1), (5, .aload_n 0, 1), (6, .getfield 16, 3), (9, .iload_n 1, 1), (10, .iaload, 1), (11, .if_icmp .ge 13, 3), (14, .iload_n 2, 1), (15, .bipush 6, 2), (17, .if_icmp .ge 7, 3), (20, .iconst 1, 1), (21, .goto 4, 3), (24, .iconst 0, 1), (25, .ireturn, 1)], 3, 0, 0)
def cm21 : Me := ("key", "(II)I", 2, 1, [(0, .iload_n 1, 1), (1, .bipush 6, 2), (3, .imul, 1), (4, .iload_n 2, 1), (5, .iadd, 1), (6, .ireturn, 1)], 3, 0, 0)
def cm22 : Me := ("appendStep", "(III)I", 3, 1, [(0, .aload_n 0, 1), (1, .getfield 16, 3), (4, .iload_n 1, 1), (5, .iaload, 1), (6, .istore 4, 2), (8, .aload_n 0, 1), (9, .iload_n 1, 1), (10, .iload 4, 2), (12, .invokevirtual 76, 3), (15, .istore 5, 2), (17, .aload_n 0, 1), (18, .getfield 35, 3), (21, .iload 5, 2), (23, .iload_n 2, 1), (24, .iastore, 1), (25, .aload_n 0, 1), (26, .getfield 38, 3), (29, .iload 5, 2), (31, .iload_n 3, 1), (32, .iastore, 1), (33, .aload_n 0, 1), (34, .getfield 41, 3), (37, .iload 5, 2), (39, .iconst 0, 1), (40, .iastore, 1), (41, .aload_n 0, 1), (42, .getfield 44, 3), (45, .iload 5, 2), (47, .iconst 0, 1), (48, .iastore, 1), (49, .aload_n 0, 1), (50, .getfield 16, 3), (53, .iload_n 1, 1), (54, .iload 4, 2), (56, .iconst 1, 1), (57, .iadd, 1), (58, .iastore, 1), (59, .iload 4, 2), (61, .ireturn, 1)], 6, 1, 14)
def cm23 : Me := ("clearSlot", "(I)V", 1, 0, [(0, .aload_n 0, 1), (1, .getfield 22, 3), (4, .iload_n 1, 1), (5, .iconst 0, 1), (6, .bastore, 1), (7, .aload_n 0, 1), (8, .getfield 26, 3), (11, .iload_n 1, 1), (12, .iconst 0, 1), (13, .iastore, 1), (14, .aload_n 0, 1), (15, .getfield 29, 3), (18, .iload_n 1, 1), (19, .iconst 0, 1), (20, .iastore, 1), (21, .aload_n 0, 1), (22, .getfield 32, 3), (25, .iload_n 1, 1), (26, .iconst 0, 1), (27, .iastore, 1), (28, .return_, 1)], 2, 0, 0)
def cm24 : Me := ("setSlot", "(IIII)V", 4, 0, [(0, .aload_n 0, 1), (1, .getfield 22, 3), (4, .iload_n 1, 1), (5, .iconst 1, 1), (6, .bastore, 1), (7, .aload_n 0, 1), (8, .getfield 26, 3), (11, .iload_n 1, 1), (12, .iload_n 2, 1), (13, .iastore, 1), (14, .aload_n 0, 1), (15, .getfield 29, 3), (18, .iload_n 1, 1), (19, .iload_n 3, 1), (20, .iastore, 1), (21, .aload_n 0, 1), (22, .getfield 32, 3), (25, .iload_n 1, 1), (26, .iload 4, 2), (28, .iastore, 1), (29, .return_, 1)], 5, 0, 0)
def cm25 : Me := ("outstandingStep", "(I)I", 1, 1, [(0, .aload_n 0, 1), (1, .getfield 58, 3), (4, .ifCond .ne 5, 3), (7, .iconst (-1), 1), (8, .ireturn, 1), (9, .aload_n 0, 1), (10, .getfield 13, 3), (13, .iload_n 1, 1), (14, .iaload, 1), (15, .iconst 2, 1), (16, .if_icmp .ne 8, 3), (19, .iconst 1, 1), (20, .istore_n 2, 1), (21, .goto 20, 3), (24, .aload_n 0, 1), (25, .getfield 13, 3), (28, .iload_n 1, 1), (29, .iaload, 1), (30, .iconst 3, 1), (31, .if_icmp .ne 8, 3), (34, .iconst 4, 1), (35, .istore_n 2, 1), (36, .goto 5, 3), (39, .iconst (-1), 1), (40, .ireturn, 1), (41, .aload_n 0, 1), (42, .getfield 16, 3), (45, .iload_n 1, 1), (46, .iaload, 1), (47, .istore_n 3, 1), (48, .iconst 0, 1), (49, .istore 4, 2), (51, .iload 4, 2), (53, .iload_n 3, 1), (54, .if_icmp .ge 35, 3), (57, .iload 4, 2), (59, .bipush 6, 2), (61, .if_icmp .ge 28, 3), (64, .aload_n 0, 1), (65, .getfield 41, 3), (68, .aload_n 0, 1), (69, .iload_n 1, 1), (70, .iload 4, 2), (72, .invokevirtual 76, 3), (75, .iaload, 1), (76, .iload_n 2, 1), (77, .if_icmp .ne 6, 3), (80, .iload 4, 2), (82, .ireturn, 1), (83, .iinc 4 1, 3), (86, .goto (-35), 3), (89, .iconst (-1), 1), (90, .ireturn, 1)], 5, 1, 15)
def cm26 : Me := ("outstandingKind", "(I)I", 1, 1, [(0, .aload_n 0, 1), (1, .getfield 13, 3), (4, .iload_n 1, 1), (5, .iaload, 1), (6, .iconst 2, 1), (7, .if_icmp .ne 5, 3), (10, .iconst 1, 1), (11, .ireturn, 1), (12, .iconst 2, 1), (13, .ireturn, 1)], 2, 0, 0)
def cm27 : Me := ("wasSent", "(III)Z", 3, 2, [(0, .aload_n 0, 1), (1, .getfield 41, 3), (4, .aload_n 0, 1), (5, .iload_n 1, 1), (6, .iload_n 2, 1), (7, .invokevirtual 76, 3), (10, .iaload, 1), (11, .istore 4, 2), (13, .iload_n 3, 1), (14, .iconst 1, 1), (15, .if_icmp .ne 14, 3), (18, .iload 4, 2), (20, .ifCond .eq 7, 3), (23, .iconst 1, 1), (24, .goto 4, 3), (27, .iconst 0, 1), (28, .ireturn, 1), (29, .iload 4, 2), (31, .iconst 4, 1), (32, .if_icmp .eq 9, 3), (35, .iload 4, 2), (37, .iconst 5, 1), (38, .if_icmp .ne 7, 3), (41, .iconst 1, 1), (42, .goto 4, 3), (45, .iconst 0, 1), (46, .ireturn, 1)], 5, 1, 15)
def cm28 : Me := ("replyFor", "(II)I", 2, 1, [(0, .iload_n 1, 1), (1, .iconst 2, 1), (2, .if_icmp .ne 5, 3), (5, .iconst 0, 1), (6, .ireturn, 1), (7, .iload_n 2, 1), (8, .iconst 1, 1), (9, .if_icmp .eq 8, 3), (12, .iload_n 2, 1), (13, .iconst 3, 1), (14, .if_icmp .ne 5, 3), (17, .iconst 0, 1), (18, .ireturn, 1), (19, .iconst 1, 1), (20, .ireturn, 1)], 3, 0, 0)
def cm29 : Me := ("process", "(III)I", 3, 1, [(0, .aload_n 0, 1), (1, .iload_n 1, 1), (2, .iload_n 2, 1), (3, .invokevirtual 76, 3), (6, .istore 4, 2), (8, .iload_n 3, 1), (9, .iconst 1, 1), (10, .if_icmp .ne 12, 3), (13, .aload_n 0, 1), (14, .iload 4, 2), (16, .invokevirtual 118, 3), (19, .goto 9, 3), (22, .aload_n 0, 1), (23, .iload 4, 2), (25, .invokevirtual 121, 3), (28, .aload_n 0, 1), (29, .getfield 44, 3), (32, .iload 4, 2), (34, .iaload, 1), (35, .ireturn, 1)], 5, 1, 14)
def cm30 : Me := ("applyReserve", "(I)V", 1, 0, [(0, .aload_n 0, 1), (1, .getfield 44, 3), (4, .iload_n 1, 1), (5, .iaload, 1), (6, .ifCond .eq 4, 3), (9, .return_, 1), (10, .aload_n 0, 1), (11, .getfield 35, 3), (14, .iload_n 1, 1), (15, .iaload, 1), (16, .istore_n 2, 1), (17, .iload_n 2, 1), (18, .ifCond .lt 8, 3), (21, .iload_n 2, 1), (22, .iconst 3, 1), (23, .if_icmp .le 4, 3), (26, .return_, 1), (27, .aload_n 0, 1), (28, .getfield 7, 3), (31, .iload_n 2, 1), (32, .iaload, 1), (33, .aload_n 0, 1), (34, .getfield 38, 3), (37, .iload_n 1, 1), (38, .iaload, 1), (39, .if_icmp .lt 32, 3), (42, .aload_n 0, 1), (43, .getfield 7, 3), (46, .iload_n 2, 1), (47, .aload_n 0, 1), (48, .getfield 7, 3), (51, .iload_n 2, 1), (52, .iaload, 1), (53, .aload_n 0, 1), (54, .getfield 38, 3), (57, .iload_n 1, 1), (58, .iaload, 1), (59, .isub, 1), (60, .iastore, 1), (61, .aload_n 0, 1), (62, .getfield 44, 3), (65, .iload_n 1, 1), (66, .iconst 1, 1), (67, .iastore, 1), (68, .goto 10, 3), (71, .aload_n 0, 1), (72, .getfield 44, 3), (75, .iload_n 1, 1), (76, .iconst 2, 1), (77, .iastore, 1), (78, .return_, 1)], 3, 0, 0)
def cm31 : Me := ("applyRelease", "(I)V", 1, 0, [(0, .aload_n 0, 1), (1, .getfield 35, 3), (4, .iload_n 1, 1), (5, .iaload, 1), (6, .istore_n 2, 1), (7, .iload_n 2, 1), (8, .ifCond .lt 8, 3), (11, .iload_n 2, 1), (12, .iconst 3, 1), (13, .if_icmp .le 4, 3), (16, .return_, 1), (17, .aload_n 0, 1), (18, .getfield 44, 3), (21, .iload_n 1, 1), (22, .iaload, 1), (23, .iconst 1, 1), (24, .if_icmp .ne 32, 3), (27, .aload_n 0, 1), (28, .getfield 7, 3), (31, .iload_n 2, 1), (32, .aload_n 0, 1), (33, .getfield 7, 3), (36, .iload_n 2, 1), (37, .iaload, 1), (38, .aload_n 0, 1), (39, .getfield 38, 3), (42, .iload_n 1, 1), (43, .iaload, 1), (44, .iadd, 1), (45, .iastore, 1), (46, .aload_n 0, 1), (47, .getfield 44, 3), (50, .iload_n 1, 1), (51, .iconst 3, 1), (52, .iastore, 1), (53, .goto 19, 3), (56, .aload_n 0, 1), (57, .getfield 44, 3), (60, .iload_n 1, 1), (61, .iaload, 1), (62, .ifCond .ne 10, 3), (65, .aload_n 0, 1), (66, .getfield 44, 3), (69, .iload_n 1, 1), (70, .iconst 4, 1), (71, .iastore, 1), (72, .return_, 1)], 3, 0, 0)
def cm32 : Me := ("onReserveOk", "(II)V", 2, 0, [(0, .aload_n 0, 1), (1, .getfield 41, 3), (4, .aload_n 0, 1), (5, .iload_n 1, 1), (6, .iload_n 2, 1), (7, .invokevirtual 76, 3), (10, .iconst 2, 1), (11, .iastore, 1), (12, .iload_n 2, 1), (13, .aload_n 0, 1), (14, .getfield 16, 3), (17, .iload_n 1, 1), (18, .iaload, 1), (19, .iconst 1, 1), (20, .isub, 1), (21, .if_icmp .lt 11, 3), (24, .aload_n 0, 1), (25, .getfield 13, 3), (28, .iload_n 1, 1), (29, .iconst 4, 1), (30, .iastore, 1), (31, .return_, 1), (32, .aload_n 0, 1), (33, .getfield 41, 3), (36, .aload_n 0, 1), (37, .iload_n 1, 1), (38, .iload_n 2, 1), (39, .iconst 1, 1), (40, .iadd, 1), (41, .invokevirtual 76, 3), (44, .iconst 1, 1), (45, .iastore, 1), (46, .aload_n 0, 1), (47, .getfield 19, 3), (50, .iload_n 1, 1), (51, .iconst 0, 1), (52, .iastore, 1), (53, .return_, 1)], 3, 1, 15)
def cm33 : Me := ("onReserveRefused", "(II)V", 2, 0, [(0, .aload_n 0, 1), (1, .getfield 41, 3), (4, .aload_n 0, 1), (5, .iload_n 1, 1), (6, .iload_n 2, 1), (7, .invokevirtual 76, 3), (10, .iconst 3, 1), (11, .iastore, 1), (12, .aload_n 0, 1), (13, .iload_n 1, 1), (14, .invokevirtual 124, 3), (17, .return_, 1)], 3, 3, 44)
def cm34 : Me := ("onReleaseOk", "(II)V", 2, 0, [(0, .aload_n 0, 1), (1, .getfield 41, 3), (4, .aload_n 0, 1), (5, .iload_n 1, 1), (6, .iload_n 2, 1), (7, .invokevirtual 76, 3), (10, .iconst 5, 1), (11, .iastore, 1), (12, .aload_n 0, 1), (13, .iload_n 1, 1), (14, .invokevirtual 124, 3), (17, .return_, 1)], 3, 3, 44)
def cm35 : Me := ("giveUp", "(II)V", 2, 0, [(0, .aload_n 0, 1), (1, .getfield 41, 3), (4, .aload_n 0, 1), (5, .iload_n 1, 1), (6, .iload_n 2, 1), (7, .invokevirtual 76, 3), (10, .iconst 4, 1), (11, .iastore, 1), (12, .aload_n 0, 1), (13, .getfield 13, 3), (16, .iload_n 1, 1), (17, .iconst 3, 1), (18, .iastore, 1), (19, .aload_n 0, 1), (20, .getfield 19, 3), (23, .iload_n 1, 1), (24, .iconst 0, 1), (25, .iastore, 1), (26, .return_, 1)], 3, 1, 15)
def cm36 : Me := ("highestDone", "(I)I", 1, 1, [(0, .aload_n 0, 1), (1, .getfield 16, 3), (4, .iload_n 1, 1), (5, .iaload, 1), (6, .istore_n 2, 1), (7, .iload_n 2, 1), (8, .bipush 6, 2), (10, .if_icmp .le 6, 3), (13, .bipush 6, 2), (15, .istore_n 2, 1), (16, .iload_n 2, 1), (17, .iconst 1, 1), (18, .isub, 1), (19, .istore_n 3, 1), (20, .iload_n 3, 1), (21, .ifCond .lt 26, 3), (24, .aload_n 0, 1), (25, .getfield 41, 3), (28, .aload_n 0, 1), (29, .iload_n 1, 1), (30, .iload_n 3, 1), (31, .invokevirtual 76, 3), (34, .iaload, 1), (35, .iconst 2, 1), (36, .if_icmp .ne 5, 3), (39, .iload_n 3, 1), (40, .ireturn, 1), (41, .iinc 3 (-1), 3), (44, .goto (-24), 3), (47, .iconst (-1), 1), (48, .ireturn, 1)], 4, 1, 15)
def cm37 : Me := ("compensate", "(I)V", 1, 0, [(0, .aload_n 0, 1), (1, .getfield 13, 3), (4, .iload_n 1, 1), (5, .iconst 3, 1), (6, .iastore, 1), (7, .aload_n 0, 1), (8, .iload_n 1, 1), (9, .invokevirtual 127, 3), (12, .istore_n 2, 1), (13, .iload_n 2, 1), (14, .ifCond .ge 11, 3), (17, .aload_n 0, 1), (18, .getfield 13, 3), (21, .iload_n 1, 1), (22, .iconst 5, 1), (23, .iastore, 1), (24, .return_, 1), (25, .aload_n 0, 1), (26, .getfield 41, 3), (29, .aload_n 0, 1), (30, .iload_n 1, 1), (31, .iload_n 2, 1), (32, .invokevirtual 76, 3), (35, .iconst 4, 1), (36, .iastore, 1), (37, .aload_n 0, 1), (38, .getfield 19, 3), (41, .iload_n 1, 1), (42, .iconst 0, 1), (43, .iastore, 1), (44, .return_, 1)], 3, 2, 30)
def PP : Cl := ("SagaCoordinator", [(25, ("total", "[I", 3, true)), (26, ("status", "[I", 4, true)), (27, ("count", "[I", 5, true)), (28, ("retries", "[I", 6, true)), (29, ("slotFull", "[Z", 7, true)), (30, ("slotStep", "[I", 8, true)), (31, ("slotKind", "[I", 9, true)), (32, ("slotReply", "[I", 10, true)), (33, ("part", "[I", 11, true)), (34, ("amt", "[I", 12, true)), (35, ("stState", "[I", 13, true)), (36, ("entry", "[I", 14, true)), (37, ("up", "Z", 1, false)), (38, ("begun", "I", 0, false)), (39, ("maxRetries", "I", 0, false)), (40, ("sagaLimit", "I", 0, false))], [(0, 4), (0, 8), (0, 8), (0, 8), (1, 8), (0, 8), (0, 8), (0, 8), (0, 48), (0, 48), (0, 48), (0, 48)], [(7, 25), (13, 26), (16, 27), (19, 28), (22, 29), (26, 30), (29, 31), (32, 32), (35, 33), (38, 34), (41, 35), (44, 36), (51, 39), (55, 40), (58, 37), (62, 38)], [(47, 18), (65, 23), (69, 19), (73, 22), (76, 21), (80, 25), (84, 26), (87, 29), (90, 28), (93, 24), (97, 20), (101, 27), (105, 32), (109, 33), (112, 34), (115, 35), (118, 30), (121, 31), (124, 37), (127, 36)], [], [(0, cm0), (2, cm2), (3, cm3), (4, cm4), (5, cm5), (6, cm6), (7, cm7), (8, cm8), (9, cm9), (10, cm10), (11, cm11), (12, cm12), (13, cm13), (14, cm14), (15, cm15), (18, cm18), (19, cm19), (20, cm20), (21, cm21), (22, cm22), (23, cm23), (24, cm24), (25, cm25), (26, cm26), (27, cm27), (28, cm28), (29, cm29), (30, cm30), (31, cm31), (32, cm32), (33, cm33), (34, cm34), (35, cm35), (36, cm36), (37, cm37)], 1)
def lm0 : Me := ("law", "([I)Z", 1, 2, [(0, .aload_n 0, 1), (1, .iconst 0, 1), (2, .invokestatic 16, 3), (5, .sipush 600, 3), (8, .irem, 1), (9, .bipush 50, 2), (11, .isub, 1), (12, .istore_n 1, 1), (13, .iload_n 1, 1), (14, .iconst 0, 1), (15, .sipush 500, 3), (18, .invokestatic 20, 3), (21, .istore_n 2, 1), (22, .new 23, 3), (25, .dup, 1), (26, .iload_n 1, 1), (27, .aload_n 0, 1), (28, .iconst 1, 1), (29, .invokestatic 16, 3), (32, .bipush 8, 2), (34, .irem, 1), (35, .iconst 1, 1), (36, .isub, 1), (37, .aload_n 0, 1), (38, .iconst 2, 1), (39, .invokestatic 16, 3), (42, .bipush 10, 2), (44, .irem, 1), (45, .invokespecial 25, 3), (48, .astore_n 3, 1), (49, .aload_n 0, 1), (50, .iconst 3, 1), (51, .invokestatic 16, 3), (54, .istore 4, 2), (56, .iconst 0, 1), (57, .istore 5, 2), (59, .iconst 0, 1), (60, .istore 6, 2), (62, .iconst 0, 1), (63, .istore 7, 2), (65, .lconst 0, 1), (66, .lstore 8, 2), (68, .lconst 0, 1), (69, .lstore 10, 2), (71, .lconst 0, 1), (72, .lstore 12, 2), (74, .iconst 3, 1), (75, .istore 14, 2), (77, .iload 14, 2), (79, .aload_n 0, 1), (80, .arraylength, 1), (81, .if_icmp .lt 9, 3), (84, .iload 14, 2), (86, .iconst 3, 1), (87, .if_icmp .ne 742, 3), (90, .iload 14, 2), (92, .iconst 3, 1), (93, .if_icmp .le 267, 3), (96, .aload_n 0, 1), (97, .iload 14, 2), (99, .iaload, 1), (100, .istore 15, 2), (102, .iload 15, 2), (104, .bipush 15, 2), (106, .iand, 1), (107, .istore 16, 2), (109, .iload 15, 2), (111, .iconst 4, 1), (112, .iushr, 1), (113, .istore 17, 2), (115, .iload 17, 2), (117, .iload 5, 2), (119, .iconst 1, 1), (120, .iadd, 1), (121, .irem, 1), (122, .istore 18, 2), (124, .iload 18, 2), (126, .bipush 7, 2), (128, .if_icmp .le 7, 3), (131, .bipush 7, 2), (133, .istore 18, 2), (135, .iload 16, 2), (137, .ifCond .ne 23, 3), (140, .aload_n 3, 1), (141, .invokevirtual 28, 3), (144, .istore 19, 2), (146, .iload 19, 2), (148, .ifCond .lt 9, 3), (151, .iload 19, 2), (153, .iconst 1, 1), (154, .iadd, 1), (155, .istore 5, 2), (157, .goto 203, 3), (160, .iload 16, 2), (162, .iconst 1, 1), (163, .if_icmp .eq 9, 3), (166, .iload 16, 2), (168, .iconst 2, 1), (169, .if_icmp .ne 44, 3), (172, .aload_n 3, 1), (173, .iload 18, 2), (175, .invokevirtual 32, 3), (178, .istore 19, 2), (180, .iload 19, 2), (182, .ifCond .lt 28, 3), (185, .aload_n 3, 1), (186, .iload 18, 2), (188, .iload 4, 2), (190, .iload 18, 2), (192, .iload 19, 2), (194, .invokestatic 36, 3), (197, .iload 4, 2), (199, .iload 18, 2), (201, .iload 19, 2), (203, .invokestatic 39, 3), (206, .invokevirtual 42, 3), (209, .pop, 1), (210, .goto 150, 3), (213, .iload 16, 2), (215, .iconst 3, 1), (216, .if_icmp .eq 10, 3), (219, .iload 16, 2), (221, .bipush 15, 2), (223, .if_icmp .ne 13, 3), (226, .aload_n 3, 1), (227, .iload 18, 2), (229, .invokevirtual 45, 3), (232, .pop, 1), (233, .goto 127, 3), (236, .iload 16, 2), (238, .iconst 4, 1), (239, .if_icmp .lt 20, 3), (242, .iload 16, 2), (244, .bipush 6, 2), (246, .if_icmp .gt 13, 3), (249, .aload_n 3, 1), (250, .iload 18, 2), (252, .invokevirtual 49, 3), (255, .pop, 1), (256, .goto 104, 3), (259, .iload 16, 2), (261, .bipush 7, 2), (263, .if_icmp .lt 20, 3), (266, .iload 16, 2), (268, .bipush 9, 2), (270, .if_icmp .gt 13, 3), (273, .aload_n 3, 1), (274, .iload 18, 2), (276, .invokevirtual 52, 3), (279, .pop, 1), (280, .goto 80, 3), (283, .iload 16, 2), (285, .bipush 10, 2), (287, .if_icmp .ne 13, 3), (290, .aload_n 3, 1), (291, .iload 18, 2), (293, .invokevirtual 55, 3), (296, .pop, 1), (297, .goto 63, 3), (300, .iload 16, 2), (302, .bipush 11, 2), (304, .if_icmp .eq 10, 3), (307, .iload 16, 2), (309, .bipush 12, 2), (311, .if_icmp .ne 29, 3), (314, .aload_n 3, 1), (315, .iload 18, 2), (317, .iload 17, 2), (319, .iconst 3, 1), (320, .iushr, 1), (321, .bipush 6, 2), (323, .irem, 1), (324, .iconst 1, 1), (325, .iload 17, 2), (327, .bipush 6, 2), (329, .iushr, 1), (330, .iconst 1, 1), (331, .iand, 1), (332, .iadd, 1), (333, .invokevirtual 58, 3), (336, .pop, 1), (337, .goto 23, 3), (340, .iload 16, 2), (342, .bipush 13, 2), (344, .if_icmp .ne 11, 3), (347, .aload_n 3, 1), (348, .invokevirtual 61, 3), (351, .pop, 1), (352, .goto 8, 3), (355, .aload_n 3, 1), (356, .invokevirtual 65, 3), (359, .pop, 1), (360, .iconst 0, 1), (361, .istore 15, 2), (363, .iload 15, 2), (365, .iconst 4, 1), (366, .if_icmp .ge 118, 3), (369, .lconst 0, 1), (370, .lstore 16, 2), (372, .iconst 0, 1), (373, .istore 18, 2), (375, .iload 18, 2), (377, .bipush 8, 2), (379, .if_icmp .ge 81, 3), (382, .aload_n 3, 1), (383, .iload 18, 2), (385, .invokevirtual 32, 3), (388, .istore 19, 2), (390, .iconst 0, 1), (391, .istore 20, 2), (393, .iload 20, 2), (395, .iload 19, 2), (397, .if_icmp .ge 57, 3), (400, .iload 20, 2), (402, .bipush 6, 2), (404, .if_icmp .ge 50, 3), (407, .iload 4, 2), (409, .iload 18, 2), (411, .iload 20, 2), (413, .invokestatic 36, 3), (416, .iload 15, 2), (418, .if_icmp .ne 30, 3), (421, .aload_n 3, 1), (422, .iload 18, 2), (424, .iload 20, 2), (426, .invokevirtual 68, 3), (429, .iconst 1, 1), (430, .if_icmp .ne 18, 3), (433, .lload 16, 2), (435, .iload 4, 2), (437, .iload 18, 2), (439, .iload 20, 2), (441, .invokestatic 39, 3), (444, .i2l, 1), (445, .ladd, 1), (446, .lstore 16, 2), (448, .iinc 20 1, 3), (451, .goto (-58), 3), (454, .iinc 18 1, 3), (457, .goto (-82), 3), (460, .aload_n 3, 1), (461, .iload 15, 2), (463, .invokevirtual 72, 3), (466, .i2l, 1), (467, .iload_n 2, 1), (468, .i2l, 1), (469, .lload 16, 2), (471, .lsub, 1), (472, .lcmp, 1), (473, .ifCond .eq 5, 3), (476, .iconst 0, 1), (477, .ireturn, 1), (478, .iinc 15 1, 3), (481, .goto (-118), 3), (484, .iconst 0, 1), (485, .istore 15, 2), (487, .iload 15, 2), (489, .bipush 8, 2), (491, .if_icmp .ge 332, 3), (494, .aload_n 3, 1), (495, .iload 15, 2), (497, .invokevirtual 75, 3), (500, .istore 16, 2), (502, .aload_n 3, 1), (503, .iload 15, 2), (505, .invokevirtual 32, 3), (508, .istore 17, 2), (510, .lconst 0, 1), (511, .lstore 18, 2), (513, .iconst 0, 1), (514, .istore 20, 2), (516, .iload 20, 2), (518, .bipush 6, 2), (520, .if_icmp .ge 33, 3), (523, .lload 18, 2), (525, .aload_n 3, 1), (526, .iload 15, 2), (528, .iload 20, 2), (530, .invokevirtual 68, 3), (533, .iconst 1, 1), (534, .iadd, 1), (535, .bipush 7, 2), (537, .iand, 1), (538, .i2l, 1), (539, .iconst 3, 1), (540, .iload 20, 2), (542, .imul, 1), (543, .lshl, 1), (544, .lor, 1), (545, .lstore 18, 2), (547, .iinc 20 1, 3), (550, .goto (-34), 3), (553, .iload 16, 2), (555, .iconst 4, 1), (556, .if_icmp .ne 54, 3), (559, .iconst 0, 1), (560, .istore 20, 2), (562, .iload 20, 2), (564, .iload 17, 2), (566, .if_icmp .ge 44, 3), (569, .iload 20, 2), (571, .bipush 6, 2), (573, .if_icmp .ge 37, 3), (576, .aload_n 3, 1), (577, .iload 15, 2), (579, .iload 20, 2), (581, .invokevirtual 68, 3), (584, .iconst 1, 1), (585, .if_icmp .eq 5, 3), (588, .iconst 0, 1), (589, .ireturn, 1), (590, .aload_n 3, 1), (591, .iload 15, 2), (593, .iload 20, 2), (595, .invokevirtual 78, 3), (598, .iconst 2, 1), (599, .if_icmp .eq 5, 3), (602, .iconst 0, 1), (603, .ireturn, 1), (604, .iinc 20 1, 3), (607, .goto (-45), 3), (610, .iload 16, 2), (612, .iconst 5, 1), (613, .if_icmp .ne 40, 3), (616, .iconst 0, 1), (617, .istore 20, 2), (619, .iload 20, 2), (621, .iload 17, 2), (623, .if_icmp .ge 30, 3), (626, .iload 20, 2), (628, .bipush 6, 2), (630, .if_icmp .ge 23, 3), (633, .aload_n 3, 1), (634, .iload 15, 2), (636, .iload 20, 2), (638, .invokevirtual 68, 3), (641, .iconst 1, 1), (642, .if_icmp .ne 5, 3), (645, .iconst 0, 1), (646, .ireturn, 1), (647, .iinc 20 1, 3), (650, .goto (-31), 3), (653, .iload 15, 2), (655, .iconst 3, 1), (656, .irem, 1), (657, .bipush 18, 2), (659, .imul, 1), (660, .istore 20, 2), (662, .iload 15, 2), (664, .iconst 3, 1), (665, .if_icmp .ge 8, 3), (668, .lload 8, 2), (670, .goto 17, 3), (673, .iload 15, 2), (675, .bipush 6, 2), (677, .if_icmp .ge 8, 3), (680, .lload 10, 2), (682, .goto 5, 3), (685, .lload 12, 2), (687, .lstore 21, 2), (689, .lload 21, 2), (691, .iload 20, 2), (693, .lushr, 1), (694, .ldc2_w 81, 3), (697, .land, 1), (698, .lstore 23, 2), (700, .iload 6, 2), (702, .iload 15, 2), (704, .ishr, 1), (705, .iconst 1, 1), (706, .iand, 1), (707, .ifCond .eq 28, 3), (710, .lload 23, 2), (712, .lload 18, 2), (714, .lcmp, 1), (715, .ifCond .ne 18, 3), (718, .iload 7, 2), (720, .iconst 3, 1), (721, .iload 15, 2), (723, .imul, 1), (724, .ishr, 1), (725, .bipush 7, 2), (727, .iand, 1), (728, .iload 16, 2), (730, .if_icmp .eq 87, 3), (733, .iconst 0, 1), (734, .ireturn, 1), (735, .iload 16, 2), (737, .iconst 4, 1), (738, .if_icmp .eq 9, 3), (741, .iload 16, 2), (743, .iconst 5, 1), (744, .if_icmp .ne 73, 3), (747, .iload 6, 2), (749, .iconst 1, 1), (750, .iload 15, 2), (752, .ishl, 1), (753, .ior, 1), (754, .istore 6, 2), (756, .iload 7, 2), (758, .iload 16, 2), (760, .iconst 3, 1), (761, .iload 15, 2), (763, .imul, 1), (764, .ishl, 1), (765, .ior, 1), (766, .istore 7, 2), (768, .iload 15, 2), (770, .iconst 3, 1), (771, .if_icmp .ge 16, 3), (774, .lload 8, 2), (776, .lload 18, 2), (778, .iload 20, 2), (780, .lshl, 1), (781, .lor, 1), (782, .lstore 8, 2), (784, .goto 33, 3), (787, .iload 15, 2), (789, .bipush 6, 2), (791, .if_icmp .ge 16, 3), (794, .lload 10, 2), (796, .lload 18, 2), (798, .iload 20, 2), (800, .lshl, 1), (801, .lor, 1), (802, .lstore 10, 2), (804, .goto 13, 3), (807, .lload 12, 2), (809, .lload 18, 2), (811, .iload 20, 2), (813, .lshl, 1), (814, .lor, 1), (815, .lstore 12, 2), (817, .iinc 15 1, 3), (820, .goto (-333), 3), (823, .iinc 14 1, 3), (826, .goto (-749), 3), (829, .iconst 1, 1), (830, .ireturn, 1)], 25, 8, 176)
def lm2 : Me := ("cell", "([II)I", 2, 1, [(0, .iload_n 1, 1), (1, .aload_n 0, 1), (2, .arraylength, 1), (3, .if_icmp .ge 9, 3), (6, .aload_n 0, 1), (7, .iload_n 1, 1), (8, .iaload, 1), (9, .goto 4, 3), (12, .iconst 0, 1), (13, .ireturn, 1)], 2, 0, 0)
def lm3 : Me := ("clamp", "(III)I", 3, 1, [(0, .iload_n 0, 1), (1, .iload_n 1, 1), (2, .if_icmp .ge 7, 3), (5, .iload_n 1, 1), (6, .goto 13, 3), (9, .iload_n 0, 1), (10, .iload_n 2, 1), (11, .if_icmp .le 7, 3), (14, .iload_n 2, 1), (15, .goto 4, 3), (18, .iload_n 0, 1), (19, .ireturn, 1)], 3, 0, 0)
def lm4 : Me := ("mix", "(III)I", 3, 1, [(0, .iload_n 0, 1), (1, .bipush 31, 2), (3, .imul, 1), (4, .iload_n 1, 1), (5, .sipush 977, 3), (8, .imul, 1), (9, .iadd, 1), (10, .iload_n 2, 1), (11, .sipush 7919, 3), (14, .imul, 1), (15, .iadd, 1), (16, .sipush 12345, 3), (19, .iadd, 1), (20, .istore_n 3, 1), (21, .iload_n 3, 1), (22, .iload_n 3, 1), (23, .bipush 13, 2), (25, .iushr, 1), (26, .ixor, 1), (27, .istore_n 3, 1), (28, .iload_n 3, 1), (29, .ldc 7, 2), (31, .imul, 1), (32, .istore_n 3, 1), (33, .iload_n 3, 1), (34, .iload_n 3, 1), (35, .bipush 15, 2), (37, .iushr, 1), (38, .ixor, 1), (39, .istore_n 3, 1), (40, .iload_n 3, 1), (41, .ldc 8, 2), (43, .imul, 1), (44, .istore_n 3, 1), (45, .iload_n 3, 1), (46, .iload_n 3, 1), (47, .bipush 16, 2), (49, .iushr, 1), (50, .ixor, 1), (51, .istore_n 3, 1), (52, .iload_n 3, 1), (53, .ldc 9, 2), (55, .iand, 1), (56, .ireturn, 1)], 4, 0, 0)
def lm5 : Me := ("part", "(III)I", 3, 1, [(0, .iload_n 0, 1), (1, .iload_n 1, 1), (2, .iload_n 2, 1), (3, .invokestatic 10, 3), (6, .iconst 3, 1), (7, .iand, 1), (8, .ireturn, 1)], 3, 1, 15)
def lm6 : Me := ("amt", "(III)I", 3, 1, [(0, .iconst 1, 1), (1, .iload_n 0, 1), (2, .iload_n 1, 1), (3, .iload_n 2, 1), (4, .invokestatic 10, 3), (7, .iconst 2, 1), (8, .iushr, 1), (9, .bipush 100, 2), (11, .irem, 1), (12, .iadd, 1), (13, .ireturn, 1)], 3, 1, 16)
def QQ : Lw := ("SagaCoordinatorOwnLaw", [(10, 4), (16, 2), (20, 3), (36, 5), (39, 6)], [(28, 2), (32, 12), (42, 3), (45, 4), (49, 5), (52, 7), (55, 8), (58, 6), (61, 9), (65, 10), (68, 14), (72, 15), (75, 11), (78, 13)], 25, 23, 16, [(7, .int (1540483477 : Int32)), (8, .int (668265261 : Int32)), (9, .int (2147483647 : Int32)), (81, .long (262143 : Int64))], [(0, lm0), (2, lm2), (3, lm3), (4, lm4), (5, lm5), (6, lm6)], 40, 640)
set_option maxRecDepth 100000
set_option maxHeartbeats 1000000
theorem dk_l2 : chk method_2_code lm2.cd = true := by decide +kernel
theorem dk_l3 : chk method_3_code lm3.cd = true := by decide +kernel
theorem dk_c0 : chk prog_1_method_1_code cm0.cd = true := by decide +kernel
theorem dk_c18 : chk prog_1_method_18_code cm18.cd = true := by decide +kernel
theorem dk_c12 : chk prog_1_method_12_code cm12.cd = true := by decide +kernel
theorem dk_c19 : chk prog_1_method_19_code cm19.cd = true := by decide +kernel
theorem dk_c15 : chk prog_1_method_15_code cm15.cd = true := by decide +kernel
theorem dk_c11 : chk prog_1_method_11_code cm11.cd = true := by decide +kernel
theorem dk_c14 : chk prog_1_method_14_code cm14.cd = true := by decide +kernel
theorem dk_c20 : chk prog_1_method_20_code cm20.cd = true := by decide +kernel
theorem dk_c4 : chk prog_1_method_4_code cm4.cd = true := by decide +kernel
theorem dk_c2 : chk prog_1_method_2_code cm2.cd = true := by decide +kernel
theorem dk_c23 : chk prog_1_method_23_code cm23.cd = true := by decide +kernel
theorem dk_l5 : chk method_5_code lm5.cd = true := by decide +kernel
theorem dk_l4 : chk method_4_code lm4.cd = true := by decide +kernel
theorem dk_l6 : chk method_6_code lm6.cd = true := by decide +kernel
theorem dk_c3 : chk prog_1_method_3_code cm3.cd = true := by decide +kernel
theorem dk_c22 : chk prog_1_method_22_code cm22.cd = true := by decide +kernel
theorem dk_c21 : chk prog_1_method_21_code cm21.cd = true := by decide +kernel
theorem dk_c10 : chk prog_1_method_10_code cm10.cd = true := by decide +kernel
theorem dk_c8 : chk prog_1_method_8_code cm8.cd = true := by decide +kernel
theorem dk_c25 : chk prog_1_method_25_code cm25.cd = true := by decide +kernel
theorem dk_c9 : chk prog_1_method_9_code cm9.cd = true := by decide +kernel
theorem dk_c5 : chk prog_1_method_5_code cm5.cd = true := by decide +kernel
theorem dk_c7 : chk prog_1_method_7_code cm7.cd = true := by decide +kernel
theorem dk_c6 : chk prog_1_method_6_code cm6.cd = true := by decide +kernel
theorem dk_c27 : chk prog_1_method_27_code cm27.cd = true := by decide +kernel
theorem dk_c29 : chk prog_1_method_29_code cm29.cd = true := by decide +kernel
theorem dk_c30 : chk prog_1_method_30_code cm30.cd = true := by decide +kernel
theorem dk_c26 : chk prog_1_method_26_code cm26.cd = true := by decide +kernel
theorem dk_c28 : chk prog_1_method_28_code cm28.cd = true := by decide +kernel
theorem dk_c24 : chk prog_1_method_24_code cm24.cd = true := by decide +kernel
theorem dk_c33 : chk prog_1_method_33_code cm33.cd = true := by decide +kernel
theorem dk_c37 : chk prog_1_method_37_code cm37.cd = true := by decide +kernel
theorem dk_c36 : chk prog_1_method_36_code cm36.cd = true := by decide +kernel
theorem dk_c35 : chk prog_1_method_35_code cm35.cd = true := by decide +kernel
theorem dk_c31 : chk prog_1_method_31_code cm31.cd = true := by decide +kernel
theorem dk_c34 : chk prog_1_method_34_code cm34.cd = true := by decide +kernel
theorem dk_c32 : chk prog_1_method_32_code cm32.cd = true := by decide +kernel
theorem dk_c13 : chk prog_1_method_13_code cm13.cd = true := by decide +kernel
theorem chk_ap {bytes : ByteArray} : ∀ (x y : Cd), chk bytes x = true → chk bytes y = true → chk bytes (x ++ y) = true
  | [], y, _, h => h
  | (pc, i, n) :: r, y, h, k => by
    simp only [List.cons_append, chk, Bool.and_eq_true] at h ⊢
    exact ⟨h.1, chk_ap r y h.2 k⟩
theorem chk_td {bytes : ByteArray} {l : Cd} (n : Nat) (h : chk bytes (l.take n) = true) (k : chk bytes (l.drop n) = true) : chk bytes l = true := by
  have := chk_ap _ _ h k
  rwa [List.take_append_drop] at this
theorem dk_l0_0 : chk code (lm0.cd.take 80) = true := by decide +kernel
theorem dk_l0_1 : chk code ((lm0.cd.drop 80).take 80) = true := by decide +kernel
theorem dk_l0_2 : chk code (((lm0.cd.drop 80).drop 80).take 80) = true := by decide +kernel
theorem dk_l0_3 : chk code ((((lm0.cd.drop 80).drop 80).drop 80).take 80) = true := by decide +kernel
theorem dk_l0_4 : chk code (((((lm0.cd.drop 80).drop 80).drop 80).drop 80).take 80) = true := by decide +kernel
theorem dk_l0_5 : chk code (((((lm0.cd.drop 80).drop 80).drop 80).drop 80).drop 80) = true := by decide +kernel
theorem dk_l0 : chk code lm0.cd = true := (chk_td 80 dk_l0_0 (chk_td 80 dk_l0_1 (chk_td 80 dk_l0_2 (chk_td 80 dk_l0_3 (chk_td 80 dk_l0_4 dk_l0_5)))))
theorem pk_l2 : parseMethodDescriptor "([II)I" = some ⟨[.array .int, .int], some .int⟩ := by decide +kernel
theorem pk_l3 : parseMethodDescriptor "(III)I" = some ⟨[.int, .int, .int], some .int⟩ := by decide +kernel
theorem pk_c0 : parseMethodDescriptor "(III)V" = some ⟨[.int, .int, .int], none⟩ := by decide +kernel
theorem pk_c18 : parseMethodDescriptor "(III)I" = some ⟨[.int, .int, .int], some .int⟩ := by decide +kernel
theorem pk_c12 : parseMethodDescriptor "(I)I" = some ⟨[.int], some .int⟩ := by decide +kernel
theorem pk_c19 : parseMethodDescriptor "(I)Z" = some ⟨[.int], some .boolean⟩ := by decide +kernel
theorem pk_c15 : parseMethodDescriptor "(I)I" = some ⟨[.int], some .int⟩ := by decide +kernel
theorem pk_c11 : parseMethodDescriptor "(I)I" = some ⟨[.int], some .int⟩ := by decide +kernel
theorem pk_c14 : parseMethodDescriptor "(II)I" = some ⟨[.int, .int], some .int⟩ := by decide +kernel
theorem pk_c20 : parseMethodDescriptor "(II)Z" = some ⟨[.int, .int], some .boolean⟩ := by decide +kernel
theorem pk_c4 : parseMethodDescriptor "(I)Z" = some ⟨[.int], some .boolean⟩ := by decide +kernel
theorem pk_c2 : parseMethodDescriptor "()I" = some ⟨[], some .int⟩ := by decide +kernel
theorem pk_c23 : parseMethodDescriptor "(I)V" = some ⟨[.int], none⟩ := by decide +kernel
theorem pk_l5 : parseMethodDescriptor "(III)I" = some ⟨[.int, .int, .int], some .int⟩ := by decide +kernel
theorem pk_l4 : parseMethodDescriptor "(III)I" = some ⟨[.int, .int, .int], some .int⟩ := by decide +kernel
theorem pk_l6 : parseMethodDescriptor "(III)I" = some ⟨[.int, .int, .int], some .int⟩ := by decide +kernel
theorem pk_c3 : parseMethodDescriptor "(III)I" = some ⟨[.int, .int, .int], some .int⟩ := by decide +kernel
theorem pk_c22 : parseMethodDescriptor "(III)I" = some ⟨[.int, .int, .int], some .int⟩ := by decide +kernel
theorem pk_c21 : parseMethodDescriptor "(II)I" = some ⟨[.int, .int], some .int⟩ := by decide +kernel
theorem pk_c10 : parseMethodDescriptor "()Z" = some ⟨[], some .boolean⟩ := by decide +kernel
theorem pk_c8 : parseMethodDescriptor "(I)I" = some ⟨[.int], some .int⟩ := by decide +kernel
theorem pk_c25 : parseMethodDescriptor "(I)I" = some ⟨[.int], some .int⟩ := by decide +kernel
theorem pk_c9 : parseMethodDescriptor "()Z" = some ⟨[], some .boolean⟩ := by decide +kernel
theorem pk_c5 : parseMethodDescriptor "(I)I" = some ⟨[.int], some .int⟩ := by decide +kernel
theorem pk_c7 : parseMethodDescriptor "(I)I" = some ⟨[.int], some .int⟩ := by decide +kernel
theorem pk_c6 : parseMethodDescriptor "(III)I" = some ⟨[.int, .int, .int], some .int⟩ := by decide +kernel
theorem pk_c27 : parseMethodDescriptor "(III)Z" = some ⟨[.int, .int, .int], some .boolean⟩ := by decide +kernel
theorem pk_c29 : parseMethodDescriptor "(III)I" = some ⟨[.int, .int, .int], some .int⟩ := by decide +kernel
theorem pk_c30 : parseMethodDescriptor "(I)V" = some ⟨[.int], none⟩ := by decide +kernel
theorem pk_c26 : parseMethodDescriptor "(I)I" = some ⟨[.int], some .int⟩ := by decide +kernel
theorem pk_c28 : parseMethodDescriptor "(II)I" = some ⟨[.int, .int], some .int⟩ := by decide +kernel
theorem pk_c24 : parseMethodDescriptor "(IIII)V" = some ⟨[.int, .int, .int, .int], none⟩ := by decide +kernel
theorem pk_c33 : parseMethodDescriptor "(II)V" = some ⟨[.int, .int], none⟩ := by decide +kernel
theorem pk_c37 : parseMethodDescriptor "(I)V" = some ⟨[.int], none⟩ := by decide +kernel
theorem pk_c36 : parseMethodDescriptor "(I)I" = some ⟨[.int], some .int⟩ := by decide +kernel
theorem pk_c35 : parseMethodDescriptor "(II)V" = some ⟨[.int, .int], none⟩ := by decide +kernel
theorem pk_c31 : parseMethodDescriptor "(I)V" = some ⟨[.int], none⟩ := by decide +kernel
theorem pk_c34 : parseMethodDescriptor "(II)V" = some ⟨[.int, .int], none⟩ := by decide +kernel
theorem pk_c32 : parseMethodDescriptor "(II)V" = some ⟨[.int, .int], none⟩ := by decide +kernel
theorem pk_c13 : parseMethodDescriptor "(II)I" = some ⟨[.int, .int], some .int⟩ := by decide +kernel
theorem lkC (Z : State) (a0 : Array Value) (hw : ∀ d ∈ tables_1, d.before a0 Z = true) : LinkC PP Z a0 :=
  ⟨⟨⟨16, (hw _ (List.mem_of_getElem? (i := 8) rfl))⟩, (hw _ (List.mem_of_getElem? (i := 9) rfl))⟩,
   asc_all (⟨by intro z h; obtain rfl : ("total", "[I", 3, true) = z := Option.some.inj h; exact (hw _ (List.mem_of_getElem? (i := 17) rfl)), by intro z h; obtain rfl : ("status", "[I", 4, true) = z := Option.some.inj h; exact (hw _ (List.mem_of_getElem? (i := 19) rfl)), by intro z h; obtain rfl : ("count", "[I", 5, true) = z := Option.some.inj h; exact (hw _ (List.mem_of_getElem? (i := 21) rfl)), by intro z h; obtain rfl : ("retries", "[I", 6, true) = z := Option.some.inj h; exact (hw _ (List.mem_of_getElem? (i := 23) rfl)), by intro z h; obtain rfl : ("slotFull", "[Z", 7, true) = z := Option.some.inj h; exact (hw _ (List.mem_of_getElem? (i := 26) rfl)), by intro z h; obtain rfl : ("slotStep", "[I", 8, true) = z := Option.some.inj h; exact (hw _ (List.mem_of_getElem? (i := 28) rfl)), by intro z h; obtain rfl : ("slotKind", "[I", 9, true) = z := Option.some.inj h; exact (hw _ (List.mem_of_getElem? (i := 30) rfl)), by intro z h; obtain rfl : ("slotReply", "[I", 10, true) = z := Option.some.inj h; exact (hw _ (List.mem_of_getElem? (i := 32) rfl)), by intro z h; obtain rfl : ("part", "[I", 11, true) = z := Option.some.inj h; exact (hw _ (List.mem_of_getElem? (i := 34) rfl)), by intro z h; obtain rfl : ("amt", "[I", 12, true) = z := Option.some.inj h; exact (hw _ (List.mem_of_getElem? (i := 36) rfl)), by intro z h; obtain rfl : ("stState", "[I", 13, true) = z := Option.some.inj h; exact (hw _ (List.mem_of_getElem? (i := 38) rfl)), by intro z h; obtain rfl : ("entry", "[I", 14, true) = z := Option.some.inj h; exact (hw _ (List.mem_of_getElem? (i := 40) rfl)), by intro z h; obtain rfl : ("maxRetries", "I", 0, false) = z := Option.some.inj h; exact (hw _ (List.mem_of_getElem? (i := 46) rfl)), by intro z h; obtain rfl : ("sagaLimit", "I", 0, false) = z := Option.some.inj h; exact (hw _ (List.mem_of_getElem? (i := 48) rfl)), by intro z h; obtain rfl : ("up", "Z", 1, false) = z := Option.some.inj h; exact (hw _ (List.mem_of_getElem? (i := 50) rfl)), by intro z h; obtain rfl : ("begun", "I", 0, false) = z := Option.some.inj h; exact (hw _ (List.mem_of_getElem? (i := 52) rfl)), trivial⟩),
   asc_all (⟨(hw _ (List.mem_of_getElem? (i := 18) rfl)), (hw _ (List.mem_of_getElem? (i := 20) rfl)), (hw _ (List.mem_of_getElem? (i := 22) rfl)), (hw _ (List.mem_of_getElem? (i := 24) rfl)), (hw _ (List.mem_of_getElem? (i := 27) rfl)), (hw _ (List.mem_of_getElem? (i := 29) rfl)), (hw _ (List.mem_of_getElem? (i := 31) rfl)), (hw _ (List.mem_of_getElem? (i := 33) rfl)), (hw _ (List.mem_of_getElem? (i := 35) rfl)), (hw _ (List.mem_of_getElem? (i := 37) rfl)), (hw _ (List.mem_of_getElem? (i := 39) rfl)), (hw _ (List.mem_of_getElem? (i := 41) rfl)), (hw _ (List.mem_of_getElem? (i := 51) rfl)), (hw _ (List.mem_of_getElem? (i := 53) rfl)), (hw _ (List.mem_of_getElem? (i := 47) rfl)), (hw _ (List.mem_of_getElem? (i := 49) rfl)), trivial⟩),
   asc_all (⟨(by decide +kernel), (by decide +kernel), (by decide +kernel), (by decide +kernel), (by decide +kernel), (by decide +kernel), (by decide +kernel), (by decide +kernel), (by decide +kernel), (by decide +kernel), (by decide +kernel), (by decide +kernel), (by decide +kernel), (by decide +kernel), (by decide +kernel), (by decide +kernel), trivial⟩),
   dst_ok (by decide +kernel),
   lst_all (⟨⟨by decide, (hw _ (List.mem_of_getElem? (i := 16) rfl))⟩, ⟨by decide, (hw _ (List.mem_of_getElem? (i := 16) rfl))⟩, ⟨by decide, (hw _ (List.mem_of_getElem? (i := 16) rfl))⟩, ⟨by decide, (hw _ (List.mem_of_getElem? (i := 16) rfl))⟩, ⟨by decide, (hw _ (List.mem_of_getElem? (i := 25) rfl))⟩, ⟨by decide, (hw _ (List.mem_of_getElem? (i := 16) rfl))⟩, ⟨by decide, (hw _ (List.mem_of_getElem? (i := 16) rfl))⟩, ⟨by decide, (hw _ (List.mem_of_getElem? (i := 16) rfl))⟩, ⟨by decide, (hw _ (List.mem_of_getElem? (i := 16) rfl))⟩, ⟨by decide, (hw _ (List.mem_of_getElem? (i := 16) rfl))⟩, ⟨by decide, (hw _ (List.mem_of_getElem? (i := 16) rfl))⟩, ⟨by decide, (hw _ (List.mem_of_getElem? (i := 16) rfl))⟩, trivial⟩),
   asc_all (trivial),
   ⟨(hw _ (List.mem_of_getElem? (i := 13) rfl)), (hw _ (List.mem_of_getElem? (i := 14) rfl)), (hw _ (List.mem_of_getElem? (i := 15) rfl))⟩,
   asc_all (⟨⟨prog_1_method_1_code, [.int, .int, .int], (hw _ (List.mem_of_getElem? (i := 12) rfl)), chk_ok dk_c0, pk_c0, rfl⟩, ⟨prog_1_method_2_code, [], (hw _ (List.mem_of_getElem? (i := 92) rfl)), chk_ok dk_c2, pk_c2, rfl⟩, ⟨prog_1_method_3_code, [.int, .int, .int], (hw _ (List.mem_of_getElem? (i := 113) rfl)), chk_ok dk_c3, pk_c3, rfl⟩, ⟨prog_1_method_4_code, [.int], (hw _ (List.mem_of_getElem? (i := 87) rfl)), chk_ok dk_c4, pk_c4, rfl⟩, ⟨prog_1_method_5_code, [.int], (hw _ (List.mem_of_getElem? (i := 145) rfl)), chk_ok dk_c5, pk_c5, rfl⟩, ⟨prog_1_method_6_code, [.int, .int, .int], (hw _ (List.mem_of_getElem? (i := 155) rfl)), chk_ok dk_c6, pk_c6, rfl⟩, ⟨prog_1_method_7_code, [.int], (hw _ (List.mem_of_getElem? (i := 150) rfl)), chk_ok dk_c7, pk_c7, rfl⟩, ⟨prog_1_method_8_code, [.int], (hw _ (List.mem_of_getElem? (i := 131) rfl)), chk_ok dk_c8, pk_c8, rfl⟩, ⟨prog_1_method_9_code, [], (hw _ (List.mem_of_getElem? (i := 140) rfl)), chk_ok dk_c9, pk_c9, rfl⟩, ⟨prog_1_method_10_code, [], (hw _ (List.mem_of_getElem? (i := 126) rfl)), chk_ok dk_c10, pk_c10, rfl⟩, ⟨prog_1_method_11_code, [.int], (hw _ (List.mem_of_getElem? (i := 72) rfl)), chk_ok dk_c11, pk_c11, rfl⟩, ⟨prog_1_method_12_code, [.int], (hw _ (List.mem_of_getElem? (i := 58) rfl)), chk_ok dk_c12, pk_c12, rfl⟩, ⟨prog_1_method_13_code, [.int, .int], (hw _ (List.mem_of_getElem? (i := 212) rfl)), chk_ok dk_c13, pk_c13, rfl⟩, ⟨prog_1_method_14_code, [.int, .int], (hw _ (List.mem_of_getElem? (i := 77) rfl)), chk_ok dk_c14, pk_c14, rfl⟩, ⟨prog_1_method_15_code, [.int], (hw _ (List.mem_of_getElem? (i := 67) rfl)), chk_ok dk_c15, pk_c15, rfl⟩, ⟨prog_1_method_18_code, [.int, .int, .int], (hw _ (List.mem_of_getElem? (i := 45) rfl)), chk_ok dk_c18, pk_c18, rfl⟩, ⟨prog_1_method_19_code, [.int], (hw _ (List.mem_of_getElem? (i := 62) rfl)), chk_ok dk_c19, pk_c19, rfl⟩, ⟨prog_1_method_20_code, [.int, .int], (hw _ (List.mem_of_getElem? (i := 81) rfl)), chk_ok dk_c20, pk_c20, rfl⟩, ⟨prog_1_method_21_code, [.int, .int], (hw _ (List.mem_of_getElem? (i := 121) rfl)), chk_ok dk_c21, pk_c21, rfl⟩, ⟨prog_1_method_22_code, [.int, .int, .int], (hw _ (List.mem_of_getElem? (i := 117) rfl)), chk_ok dk_c22, pk_c22, rfl⟩, ⟨prog_1_method_23_code, [.int], (hw _ (List.mem_of_getElem? (i := 96) rfl)), chk_ok dk_c23, pk_c23, rfl⟩, ⟨prog_1_method_24_code, [.int, .int, .int, .int], (hw _ (List.mem_of_getElem? (i := 179) rfl)), chk_ok dk_c24, pk_c24, rfl⟩, ⟨prog_1_method_25_code, [.int], (hw _ (List.mem_of_getElem? (i := 135) rfl)), chk_ok dk_c25, pk_c25, rfl⟩, ⟨prog_1_method_26_code, [.int], (hw _ (List.mem_of_getElem? (i := 171) rfl)), chk_ok dk_c26, pk_c26, rfl⟩, ⟨prog_1_method_27_code, [.int, .int, .int], (hw _ (List.mem_of_getElem? (i := 159) rfl)), chk_ok dk_c27, pk_c27, rfl⟩, ⟨prog_1_method_28_code, [.int, .int], (hw _ (List.mem_of_getElem? (i := 175) rfl)), chk_ok dk_c28, pk_c28, rfl⟩, ⟨prog_1_method_29_code, [.int, .int, .int], (hw _ (List.mem_of_getElem? (i := 163) rfl)), chk_ok dk_c29, pk_c29, rfl⟩, ⟨prog_1_method_30_code, [.int], (hw _ (List.mem_of_getElem? (i := 167) rfl)), chk_ok dk_c30, pk_c30, rfl⟩, ⟨prog_1_method_31_code, [.int], (hw _ (List.mem_of_getElem? (i := 199) rfl)), chk_ok dk_c31, pk_c31, rfl⟩, ⟨prog_1_method_32_code, [.int, .int], (hw _ (List.mem_of_getElem? (i := 207) rfl)), chk_ok dk_c32, pk_c32, rfl⟩, ⟨prog_1_method_33_code, [.int, .int], (hw _ (List.mem_of_getElem? (i := 183) rfl)), chk_ok dk_c33, pk_c33, rfl⟩, ⟨prog_1_method_34_code, [.int, .int], (hw _ (List.mem_of_getElem? (i := 203) rfl)), chk_ok dk_c34, pk_c34, rfl⟩, ⟨prog_1_method_35_code, [.int, .int], (hw _ (List.mem_of_getElem? (i := 195) rfl)), chk_ok dk_c35, pk_c35, rfl⟩, ⟨prog_1_method_36_code, [.int], (hw _ (List.mem_of_getElem? (i := 191) rfl)), chk_ok dk_c36, pk_c36, rfl⟩, ⟨prog_1_method_37_code, [.int], (hw _ (List.mem_of_getElem? (i := 187) rfl)), chk_ok dk_c37, pk_c37, rfl⟩, trivial⟩),
   asc_all (⟨by intro z h; obtain rfl : cm18 = z := Option.some.inj h; exact ⟨(hw _ (List.mem_of_getElem? (i := 42) rfl)), (hw _ (List.mem_of_getElem? (i := 43) rfl)), Or.inl (hw _ (List.mem_of_getElem? (i := 44) rfl))⟩, by intro z h; obtain rfl : cm23 = z := Option.some.inj h; exact ⟨(hw _ (List.mem_of_getElem? (i := 93) rfl)), (hw _ (List.mem_of_getElem? (i := 94) rfl)), Or.inl (hw _ (List.mem_of_getElem? (i := 95) rfl))⟩, by intro z h; obtain rfl : cm19 = z := Option.some.inj h; exact ⟨(hw _ (List.mem_of_getElem? (i := 59) rfl)), (hw _ (List.mem_of_getElem? (i := 60) rfl)), Or.inl (hw _ (List.mem_of_getElem? (i := 61) rfl))⟩, by intro z h; obtain rfl : cm22 = z := Option.some.inj h; exact ⟨(hw _ (List.mem_of_getElem? (i := 114) rfl)), (hw _ (List.mem_of_getElem? (i := 115) rfl)), Or.inl (hw _ (List.mem_of_getElem? (i := 116) rfl))⟩, by intro z h; obtain rfl : cm21 = z := Option.some.inj h; exact ⟨(hw _ (List.mem_of_getElem? (i := 118) rfl)), (hw _ (List.mem_of_getElem? (i := 119) rfl)), Or.inl (hw _ (List.mem_of_getElem? (i := 120) rfl))⟩, by intro z h; obtain rfl : cm25 = z := Option.some.inj h; exact ⟨(hw _ (List.mem_of_getElem? (i := 132) rfl)), (hw _ (List.mem_of_getElem? (i := 133) rfl)), Or.inl (hw _ (List.mem_of_getElem? (i := 134) rfl))⟩, by intro z h; obtain rfl : cm26 = z := Option.some.inj h; exact ⟨(hw _ (List.mem_of_getElem? (i := 168) rfl)), (hw _ (List.mem_of_getElem? (i := 169) rfl)), Or.inl (hw _ (List.mem_of_getElem? (i := 170) rfl))⟩, by intro z h; obtain rfl : cm29 = z := Option.some.inj h; exact ⟨(hw _ (List.mem_of_getElem? (i := 160) rfl)), (hw _ (List.mem_of_getElem? (i := 161) rfl)), Or.inl (hw _ (List.mem_of_getElem? (i := 162) rfl))⟩, by intro z h; obtain rfl : cm28 = z := Option.some.inj h; exact ⟨(hw _ (List.mem_of_getElem? (i := 172) rfl)), (hw _ (List.mem_of_getElem? (i := 173) rfl)), Or.inl (hw _ (List.mem_of_getElem? (i := 174) rfl))⟩, by intro z h; obtain rfl : cm24 = z := Option.some.inj h; exact ⟨(hw _ (List.mem_of_getElem? (i := 176) rfl)), (hw _ (List.mem_of_getElem? (i := 177) rfl)), Or.inl (hw _ (List.mem_of_getElem? (i := 178) rfl))⟩, by intro z h; obtain rfl : cm20 = z := Option.some.inj h; exact ⟨(hw _ (List.mem_of_getElem? (i := 78) rfl)), (hw _ (List.mem_of_getElem? (i := 79) rfl)), Or.inl (hw _ (List.mem_of_getElem? (i := 80) rfl))⟩, by intro z h; obtain rfl : cm27 = z := Option.some.inj h; exact ⟨(hw _ (List.mem_of_getElem? (i := 156) rfl)), (hw _ (List.mem_of_getElem? (i := 157) rfl)), Or.inl (hw _ (List.mem_of_getElem? (i := 158) rfl))⟩, by intro z h; obtain rfl : cm32 = z := Option.some.inj h; exact ⟨(hw _ (List.mem_of_getElem? (i := 204) rfl)), (hw _ (List.mem_of_getElem? (i := 205) rfl)), Or.inl (hw _ (List.mem_of_getElem? (i := 206) rfl))⟩, by intro z h; obtain rfl : cm33 = z := Option.some.inj h; exact ⟨(hw _ (List.mem_of_getElem? (i := 180) rfl)), (hw _ (List.mem_of_getElem? (i := 181) rfl)), Or.inl (hw _ (List.mem_of_getElem? (i := 182) rfl))⟩, by intro z h; obtain rfl : cm34 = z := Option.some.inj h; exact ⟨(hw _ (List.mem_of_getElem? (i := 200) rfl)), (hw _ (List.mem_of_getElem? (i := 201) rfl)), Or.inl (hw _ (List.mem_of_getElem? (i := 202) rfl))⟩, by intro z h; obtain rfl : cm35 = z := Option.some.inj h; exact ⟨(hw _ (List.mem_of_getElem? (i := 192) rfl)), (hw _ (List.mem_of_getElem? (i := 193) rfl)), Or.inl (hw _ (List.mem_of_getElem? (i := 194) rfl))⟩, by intro z h; obtain rfl : cm30 = z := Option.some.inj h; exact ⟨(hw _ (List.mem_of_getElem? (i := 164) rfl)), (hw _ (List.mem_of_getElem? (i := 165) rfl)), Or.inl (hw _ (List.mem_of_getElem? (i := 166) rfl))⟩, by intro z h; obtain rfl : cm31 = z := Option.some.inj h; exact ⟨(hw _ (List.mem_of_getElem? (i := 196) rfl)), (hw _ (List.mem_of_getElem? (i := 197) rfl)), Or.inl (hw _ (List.mem_of_getElem? (i := 198) rfl))⟩, by intro z h; obtain rfl : cm37 = z := Option.some.inj h; exact ⟨(hw _ (List.mem_of_getElem? (i := 184) rfl)), (hw _ (List.mem_of_getElem? (i := 185) rfl)), Or.inl (hw _ (List.mem_of_getElem? (i := 186) rfl))⟩, by intro z h; obtain rfl : cm36 = z := Option.some.inj h; exact ⟨(hw _ (List.mem_of_getElem? (i := 188) rfl)), (hw _ (List.mem_of_getElem? (i := 189) rfl)), Or.inl (hw _ (List.mem_of_getElem? (i := 190) rfl))⟩, trivial⟩),
   (by first | (simp [plainName, overriddenIn]; done) | decide +kernel),
   (by decide),
   (by intro me h; obtain rfl : cm0 = me := Option.some.inj h; rfl)⟩
theorem lkL (Z : State) (a0 : Array Value) (hw : ∀ d ∈ tables_1, d.before a0 Z = true) : LinkL PP QQ Z a0 :=
  ⟨⟨(hw _ (List.mem_of_getElem? (i := 7) rfl)), (hw _ (List.mem_of_getElem? (i := 8) rfl))⟩,
   (by intro me h; obtain rfl : cm0 = me := Option.some.inj h; exact ⟨(hw _ (List.mem_of_getElem? (i := 10) rfl)), (hw _ (List.mem_of_getElem? (i := 11) rfl)), rfl⟩),
   asc_all (⟨by intro z h; obtain rfl : cm2 = z := Option.some.inj h; exact ⟨(hw _ (List.mem_of_getElem? (i := 88) rfl)), (hw _ (List.mem_of_getElem? (i := 89) rfl)), (hw _ (List.mem_of_getElem? (i := 90) rfl)), (hw _ (List.mem_of_getElem? (i := 91) rfl))⟩, by intro z h; obtain rfl : cm12 = z := Option.some.inj h; exact ⟨(hw _ (List.mem_of_getElem? (i := 54) rfl)), (hw _ (List.mem_of_getElem? (i := 55) rfl)), (hw _ (List.mem_of_getElem? (i := 56) rfl)), (hw _ (List.mem_of_getElem? (i := 57) rfl))⟩, by intro z h; obtain rfl : cm3 = z := Option.some.inj h; exact ⟨(hw _ (List.mem_of_getElem? (i := 109) rfl)), (hw _ (List.mem_of_getElem? (i := 110) rfl)), (hw _ (List.mem_of_getElem? (i := 111) rfl)), (hw _ (List.mem_of_getElem? (i := 112) rfl))⟩, by intro z h; obtain rfl : cm4 = z := Option.some.inj h; exact ⟨(hw _ (List.mem_of_getElem? (i := 83) rfl)), (hw _ (List.mem_of_getElem? (i := 84) rfl)), (hw _ (List.mem_of_getElem? (i := 85) rfl)), (hw _ (List.mem_of_getElem? (i := 86) rfl))⟩, by intro z h; obtain rfl : cm5 = z := Option.some.inj h; exact ⟨(hw _ (List.mem_of_getElem? (i := 141) rfl)), (hw _ (List.mem_of_getElem? (i := 142) rfl)), (hw _ (List.mem_of_getElem? (i := 143) rfl)), (hw _ (List.mem_of_getElem? (i := 144) rfl))⟩, by intro z h; obtain rfl : cm7 = z := Option.some.inj h; exact ⟨(hw _ (List.mem_of_getElem? (i := 146) rfl)), (hw _ (List.mem_of_getElem? (i := 147) rfl)), (hw _ (List.mem_of_getElem? (i := 148) rfl)), (hw _ (List.mem_of_getElem? (i := 149) rfl))⟩, by intro z h; obtain rfl : cm8 = z := Option.some.inj h; exact ⟨(hw _ (List.mem_of_getElem? (i := 127) rfl)), (hw _ (List.mem_of_getElem? (i := 128) rfl)), (hw _ (List.mem_of_getElem? (i := 129) rfl)), (hw _ (List.mem_of_getElem? (i := 130) rfl))⟩, by intro z h; obtain rfl : cm6 = z := Option.some.inj h; exact ⟨(hw _ (List.mem_of_getElem? (i := 151) rfl)), (hw _ (List.mem_of_getElem? (i := 152) rfl)), (hw _ (List.mem_of_getElem? (i := 153) rfl)), (hw _ (List.mem_of_getElem? (i := 154) rfl))⟩, by intro z h; obtain rfl : cm9 = z := Option.some.inj h; exact ⟨(hw _ (List.mem_of_getElem? (i := 136) rfl)), (hw _ (List.mem_of_getElem? (i := 137) rfl)), (hw _ (List.mem_of_getElem? (i := 138) rfl)), (hw _ (List.mem_of_getElem? (i := 139) rfl))⟩, by intro z h; obtain rfl : cm10 = z := Option.some.inj h; exact ⟨(hw _ (List.mem_of_getElem? (i := 122) rfl)), (hw _ (List.mem_of_getElem? (i := 123) rfl)), (hw _ (List.mem_of_getElem? (i := 124) rfl)), (hw _ (List.mem_of_getElem? (i := 125) rfl))⟩, by intro z h; obtain rfl : cm14 = z := Option.some.inj h; exact ⟨(hw _ (List.mem_of_getElem? (i := 73) rfl)), (hw _ (List.mem_of_getElem? (i := 74) rfl)), (hw _ (List.mem_of_getElem? (i := 75) rfl)), (hw _ (List.mem_of_getElem? (i := 76) rfl))⟩, by intro z h; obtain rfl : cm15 = z := Option.some.inj h; exact ⟨(hw _ (List.mem_of_getElem? (i := 63) rfl)), (hw _ (List.mem_of_getElem? (i := 64) rfl)), (hw _ (List.mem_of_getElem? (i := 65) rfl)), (hw _ (List.mem_of_getElem? (i := 66) rfl))⟩, by intro z h; obtain rfl : cm11 = z := Option.some.inj h; exact ⟨(hw _ (List.mem_of_getElem? (i := 68) rfl)), (hw _ (List.mem_of_getElem? (i := 69) rfl)), (hw _ (List.mem_of_getElem? (i := 70) rfl)), (hw _ (List.mem_of_getElem? (i := 71) rfl))⟩, by intro z h; obtain rfl : cm13 = z := Option.some.inj h; exact ⟨(hw _ (List.mem_of_getElem? (i := 208) rfl)), (hw _ (List.mem_of_getElem? (i := 209) rfl)), (hw _ (List.mem_of_getElem? (i := 210) rfl)), (hw _ (List.mem_of_getElem? (i := 211) rfl))⟩, trivial⟩),
   asc_all (⟨by intro z h; obtain rfl : lm4 = z := Option.some.inj h; exact ⟨(hw _ (List.mem_of_getElem? (i := 100) rfl)), (hw _ (List.mem_of_getElem? (i := 101) rfl)), (hw _ (List.mem_of_getElem? (i := 2) rfl))⟩, by intro z h; obtain rfl : lm2 = z := Option.some.inj h; exact ⟨(hw _ (List.mem_of_getElem? (i := 0) rfl)), (hw _ (List.mem_of_getElem? (i := 1) rfl)), (hw _ (List.mem_of_getElem? (i := 2) rfl))⟩, by intro z h; obtain rfl : lm3 = z := Option.some.inj h; exact ⟨(hw _ (List.mem_of_getElem? (i := 4) rfl)), (hw _ (List.mem_of_getElem? (i := 5) rfl)), (hw _ (List.mem_of_getElem? (i := 2) rfl))⟩, by intro z h; obtain rfl : lm5 = z := Option.some.inj h; exact ⟨(hw _ (List.mem_of_getElem? (i := 97) rfl)), (hw _ (List.mem_of_getElem? (i := 98) rfl)), (hw _ (List.mem_of_getElem? (i := 2) rfl))⟩, by intro z h; obtain rfl : lm6 = z := Option.some.inj h; exact ⟨(hw _ (List.mem_of_getElem? (i := 106) rfl)), (hw _ (List.mem_of_getElem? (i := 107) rfl)), (hw _ (List.mem_of_getElem? (i := 2) rfl))⟩, trivial⟩),
   asc_all (⟨(hw _ (List.mem_of_getElem? (i := 103) rfl)), (hw _ (List.mem_of_getElem? (i := 104) rfl)), (hw _ (List.mem_of_getElem? (i := 105) rfl)), (hw _ (List.mem_of_getElem? (i := 82) rfl)), trivial⟩),
   asc_all (⟨fun h => absurd rfl h, fun _ => ⟨method_2_code, [.array .int, .int], (hw _ (List.mem_of_getElem? (i := 3) rfl)), chk_ok dk_l2, pk_l2, rfl⟩, fun _ => ⟨method_3_code, [.int, .int, .int], (hw _ (List.mem_of_getElem? (i := 6) rfl)), chk_ok dk_l3, pk_l3, rfl⟩, fun _ => ⟨method_4_code, [.int, .int, .int], (hw _ (List.mem_of_getElem? (i := 102) rfl)), chk_ok dk_l4, pk_l4, rfl⟩, fun _ => ⟨method_5_code, [.int, .int, .int], (hw _ (List.mem_of_getElem? (i := 99) rfl)), chk_ok dk_l5, pk_l5, rfl⟩, fun _ => ⟨method_6_code, [.int, .int, .int], (hw _ (List.mem_of_getElem? (i := 108) rfl)), chk_ok dk_l6, pk_l6, rfl⟩, trivial⟩),
   (by first | (simp [plainName, overriddenIn]; done) | decide +kernel),
   (by decide)⟩
theorem l2r0W0_in (N : Nat) (sg : Nat → Int32) (a1 : Int32)  (Q : Int32 → Wd → Prop) (h : ((a1 < (Int32.ofNat N)) → inb N a1 ∧ Q (sg (ix a1)) W0) ∧ (¬ (a1 < (Int32.ofNat N)) → Q (0 : Int32) W0)) : lalI PP QQ (some (N, sg)) 2 [.ref 0, .int a1] W0 Q := by
  refine lal_of (me := lm2) (ls := [some (.ref 0), some (.int a1)]) rfl (Nat.le_of_ble_eq_true rfl) rfl ?_
  refine wpl_sl (n := 2) (pc' := 2) (ls' := [some (.ref 0), some (.int a1)]) (st' := [.ref 0, .int a1]) rfl ?_
  refine wpl_len rfl ?_
  refine wpl_icmp (a := 12) (b := 6) rfl (by decide) rfl rfl (wpl_br (p := a1 < (Int32.ofNat N)) ⟨fun hc234 => ?_, fun hc234 => ?_⟩)
  · have h235 := h.1 hc234
    refine wpl_sl (n := 2) (pc' := 8) (ls' := [some (.ref 0), some (.int a1)]) (st' := [.int a1, .ref 0]) rfl ?_
    refine wpl_lda rfl h235.1 ?_
    have h237 := h235.2
    refine wpl_sl (n := 1) (pc' := 13) (ls' := [some (.ref 0), some (.int a1)]) (st' := [.int (sg (ix a1))]) rfl ?_
    exact wpl_ret rfl rfl rfl ⟨(sg (ix a1)), rfl, h237⟩
  · have h236 := h.2 hc234
    refine wpl_sl (n := 1) (pc' := 13) (ls' := [some (.ref 0), some (.int a1)]) (st' := [.int (0 : Int32)]) rfl ?_
    exact wpl_ret rfl rfl rfl ⟨(0 : Int32), rfl, h236⟩
theorem l3W0_in (N : Nat) (sg : Nat → Int32) (a0 : Int32) (a1 : Int32) (a2 : Int32)  (Q : Int32 → Wd → Prop) (h : ((a0 < a1) → Q a1 W0) ∧ (¬ (a0 < a1) → ((a2 < a0) → Q a2 W0) ∧ (¬ (a2 < a0) → Q a0 W0))) : lalI PP QQ (some (N, sg)) 3 [.int a0, .int a1, .int a2] W0 Q := by
  refine lal_of (me := lm3) (ls := [some (.int a0), some (.int a1), some (.int a2)]) rfl (Nat.le_of_ble_eq_true rfl) rfl ?_
  refine wpl_sl (n := 2) (pc' := 2) (ls' := [some (.int a0), some (.int a1), some (.int a2)]) (st' := [.int a1, .int a0]) rfl ?_
  refine wpl_icmp (a := 9) (b := 5) rfl (by decide) rfl rfl (wpl_br (p := a0 < a1) ⟨fun hc238 => ?_, fun hc238 => ?_⟩)
  · have h239 := h.1 hc238
    refine wpl_sl (n := 2) (pc' := 19) (ls' := [some (.int a0), some (.int a1), some (.int a2)]) (st' := [.int a1]) rfl ?_
    exact wpl_ret rfl rfl rfl ⟨a1, rfl, h239⟩
  · have h240 := h.2 hc238
    refine wpl_sl (n := 2) (pc' := 11) (ls' := [some (.int a0), some (.int a1), some (.int a2)]) (st' := [.int a2, .int a0]) rfl ?_
    refine wpl_icmp (a := 18) (b := 14) rfl (by decide) rfl rfl (wpl_br (p := a2 < a0) ⟨fun hc241 => ?_, fun hc241 => ?_⟩)
    · have h242 := h240.1 hc241
      refine wpl_sl (n := 2) (pc' := 19) (ls' := [some (.int a0), some (.int a1), some (.int a2)]) (st' := [.int a2]) rfl ?_
      exact wpl_ret rfl rfl rfl ⟨a2, rfl, h242⟩
    · have h243 := h240.2 hc241
      refine wpl_sl (n := 1) (pc' := 19) (ls' := [some (.int a0), some (.int a1), some (.int a2)]) (st' := [.int a0]) rfl ?_
      exact wpl_ret rfl rfl rfl ⟨a0, rfl, h243⟩
theorem l2r0W0p_in (N : Nat) (sg : Nat → Int32) (a1 : Int32)  (Q : Int32 → Wd → Prop) (h : ((a1 < (Int32.ofNat N)) → inb N a1 ∧ Q (sg (ix a1)) W0p) ∧ (¬ (a1 < (Int32.ofNat N)) → Q (0 : Int32) W0p)) : lalI PP QQ (some (N, sg)) 2 [.ref 0, .int a1] W0p Q := by
  refine lal_of (me := lm2) (ls := [some (.ref 0), some (.int a1)]) rfl (Nat.le_of_ble_eq_true rfl) rfl ?_
  refine wpl_sl (n := 2) (pc' := 2) (ls' := [some (.ref 0), some (.int a1)]) (st' := [.ref 0, .int a1]) rfl ?_
  refine wpl_len rfl ?_
  refine wpl_icmp (a := 12) (b := 6) rfl (by decide) rfl rfl (wpl_br (p := a1 < (Int32.ofNat N)) ⟨fun hc244 => ?_, fun hc244 => ?_⟩)
  · have h245 := h.1 hc244
    refine wpl_sl (n := 2) (pc' := 8) (ls' := [some (.ref 0), some (.int a1)]) (st' := [.int a1, .ref 0]) rfl ?_
    refine wpl_lda rfl h245.1 ?_
    have h247 := h245.2
    refine wpl_sl (n := 1) (pc' := 13) (ls' := [some (.ref 0), some (.int a1)]) (st' := [.int (sg (ix a1))]) rfl ?_
    exact wpl_ret rfl rfl rfl ⟨(sg (ix a1)), rfl, h247⟩
  · have h246 := h.2 hc244
    refine wpl_sl (n := 1) (pc' := 13) (ls' := [some (.ref 0), some (.int a1)]) (st' := [.int (0 : Int32)]) rfl ?_
    exact wpl_ret rfl rfl rfl ⟨(0 : Int32), rfl, h246⟩
theorem c18_in (a1 : Int32) (a2 : Int32) (a3 : Int32) (s : St) (Q : Int32 → St → Prop) (h : ((a1 < a2) → Q a2 s) ∧ (¬ (a1 < a2) → ((a3 < a1) → Q a3 s) ∧ (¬ (a3 < a1) → Q a1 s))) : calI PP 18 12 [.ref 0, .int a1, .int a2, .int a3] s Q := by
  refine cal_of (me := cm18) (ls := [some (.ref 0), some (.int a1), some (.int a2), some (.int a3)]) rfl (Nat.le_of_ble_eq_true rfl) rfl ?_
  refine wpc_sl (n := 2) (c' := 12) (pc' := 2) (ls' := [some (.ref 0), some (.int a1), some (.int a2), some (.int a3)]) (st' := [.int a2, .int a1]) (s' := s) rfl ?_
  refine wpc_icmp (a := 7) (b := 5) rfl (by decide) rfl rfl (wpc_br (p := a1 < a2) ⟨fun hc261 => ?_, fun hc261 => ?_⟩)
  · have h262 := h.1 hc261
    refine wpc_sl (n := 1) (c' := 12) (pc' := 6) (ls' := [some (.ref 0), some (.int a1), some (.int a2), some (.int a3)]) (st' := [.int a2]) (s' := s) rfl ?_
    exact wpc_ret rfl rfl (fun q => absurd q (by decide)) rfl ⟨a2, rfl, h262⟩
  · have h263 := h.2 hc261
    refine wpc_sl (n := 2) (c' := 12) (pc' := 9) (ls' := [some (.ref 0), some (.int a1), some (.int a2), some (.int a3)]) (st' := [.int a3, .int a1]) (s' := s) rfl ?_
    refine wpc_icmp (a := 14) (b := 12) rfl (by decide) rfl rfl (wpc_br (p := a3 < a1) ⟨fun hc264 => ?_, fun hc264 => ?_⟩)
    · have h265 := h263.1 hc264
      refine wpc_sl (n := 1) (c' := 12) (pc' := 13) (ls' := [some (.ref 0), some (.int a1), some (.int a2), some (.int a3)]) (st' := [.int a3]) (s' := s) rfl ?_
      exact wpc_ret rfl rfl (fun q => absurd q (by decide)) rfl ⟨a3, rfl, h265⟩
    · have h266 := h263.2 hc264
      refine wpc_sl (n := 1) (c' := 12) (pc' := 15) (ls' := [some (.ref 0), some (.int a1), some (.int a2), some (.int a3)]) (st' := [.int a1]) (s' := s) rfl ?_
      exact wpc_ret rfl rfl (fun q => absurd q (by decide)) rfl ⟨a1, rfl, h266⟩
theorem c0_in (a1 : Int32) (a2 : Int32) (a3 : Int32) (s : St) (Q : St → Prop) (h : calI PP 18 12 [.ref 0, .int a1, .int (0 : Int32), .int (500 : Int32)] s (fun v249 s248 => wpcV PP 0 cm0 12 113 [some (.ref 0), none, some (.int a2), some (.int a3), some (.int v249), some (.int (0 : Int32))] [] s248 Q)) : calV PP 0 0 [.ref 0, .int a1, .int a2, .int a3] s Q := by
  refine cal_of (me := cm0) (ls := [some (.ref 0), some (.int a1), some (.int a2), some (.int a3), none, none]) rfl (Nat.le_of_ble_eq_true rfl) rfl ?_
  refine wpc_sl (n := 42) (c' := 12) (pc' := 105) (ls' := [some (.ref 0), some (.int a1), some (.int a2), some (.int a3), none, none]) (st' := [.int (500 : Int32), .int (0 : Int32), .int a1, .ref 0]) (s' := s) rfl ?_
  refine wpc_callI (m' := 18) (me' := cm18) (as := [.int a1, .int (0 : Int32), .int (500 : Int32)]) (r := []) rfl rfl rfl rfl rfl ⟨by decide, (by first | decide | exact Nat.le_of_ble_eq_true rfl), (by first | decide | exact Nat.le_of_ble_eq_true rfl), rfl⟩ (calI.mono h fun v249 s248 h250 => ?_)
  refine wpc_sl (n := 3) (c' := 12) (pc' := 113) (ls' := [some (.ref 0), some (.int a1), some (.int a2), some (.int a3), some (.int v249), some (.int (0 : Int32))]) (st' := []) (s' := s248) rfl ?_
  exact wpc_lle (ls := [some (.ref 0), none, some (.int a2), some (.int a3), some (.int v249), some (.int (0 : Int32))]) ⟨rfl, rfl, rfl, rfl, rfl, trivial⟩ h250
theorem c0_113 (x2 : Int32) (x3 : Int32) (x4 : Int32) (x5 : Int32) (s : St) (Q : St → Prop) (h : ((x5 < (4 : Int32)) → inb 4 x5 ∧ wpcV PP 0 cm0 12 113 [some (.ref 0), none, some (.int x2), some (.int x3), some (.int x4), some (.int (x5 + (1 : Int32)))] [] (sI s 1 (ix x5) x4) Q) ∧ (¬ (x5 < (4 : Int32)) → calI PP 18 12 [.ref 0, .int x2, .int (0 : Int32), .int (5 : Int32)] s (fun v256 s255 => calI PP 18 12 [.ref 0, .int x3, .int (1 : Int32), .int (8 : Int32)] (sI s255 0 39 v256) (fun v259 s258 => Q (sI (sI (sI s258 0 40 v259) 0 37 (1 : Int32)) 0 38 (0 : Int32)))))) : wpcV PP 0 cm0 12 113 [some (.ref 0), none, some (.int x2), some (.int x3), some (.int x4), some (.int x5)] [] s Q := by
  refine wpc_sl (n := 2) (c' := 12) (pc' := 116) (ls' := [some (.ref 0), none, some (.int x2), some (.int x3), some (.int x4), some (.int x5)]) (st' := [.int (4 : Int32), .int x5]) (s' := s) rfl ?_
  refine wpc_icmp (a := 134) (b := 119) rfl (by decide) rfl rfl (wpc_br (p := x5 < (4 : Int32)) ⟨fun hc251 => ?_, fun hc251 => ?_⟩)
  · have h252 := h.1 hc251
    refine wpc_sl (n := 4) (c' := 12) (pc' := 127) (ls' := [some (.ref 0), none, some (.int x2), some (.int x3), some (.int x4), some (.int x5)]) (st' := [.int x4, .int x5, .ref 1]) (s' := s) rfl ?_
    refine wpc_staI (a := 0) (N := 4) (s' := (sI s 1 (ix x5) x4)) rfl rfl (by decide) h252.1 rfl ?_
    have h254 := h252.2
    refine wpc_sl (n := 2) (c' := 12) (pc' := 113) (ls' := [some (.ref 0), none, some (.int x2), some (.int x3), some (.int x4), some (.int (x5 + (1 : Int32)))]) (st' := []) (s' := (sI s 1 (ix x5) x4)) rfl ?_
    exact h254
  · have h253 := h.2 hc251
    refine wpc_sl (n := 5) (c' := 12) (pc' := 139) (ls' := [some (.ref 0), none, some (.int x2), some (.int x3), some (.int x4), some (.int x5)]) (st' := [.int (5 : Int32), .int (0 : Int32), .int x2, .ref 0, .ref 0]) (s' := s) rfl ?_
    refine wpc_callI (m' := 18) (me' := cm18) (as := [.int x2, .int (0 : Int32), .int (5 : Int32)]) (r := [.ref 0]) rfl rfl rfl rfl rfl ⟨by decide, (by first | decide | exact Nat.le_of_ble_eq_true rfl), (by first | decide | exact Nat.le_of_ble_eq_true rfl), rfl⟩ (calI.mono h253 fun v256 s255 h257 => ?_)
    refine wpc_sl (n := 6) (c' := 12) (pc' := 151) (ls' := [some (.ref 0), none, some (.int x2), some (.int x3), some (.int x4), some (.int x5)]) (st' := [.int (8 : Int32), .int (1 : Int32), .int x3, .ref 0, .ref 0]) (s' := (sI s255 0 39 v256)) rfl ?_
    refine wpc_callI (m' := 18) (me' := cm18) (as := [.int x3, .int (1 : Int32), .int (8 : Int32)]) (r := [.ref 0]) rfl rfl rfl rfl rfl ⟨by decide, (by first | decide | exact Nat.le_of_ble_eq_true rfl), (by first | decide | exact Nat.le_of_ble_eq_true rfl), rfl⟩ (calI.mono h257 fun v259 s258 h260 => ?_)
    refine wpc_sl (n := 7) (c' := 12) (pc' := 167) (ls' := [some (.ref 0), none, some (.int x2), some (.int x3), some (.int x4), some (.int x5)]) (st' := []) (s' := (sI (sI (sI s258 0 40 v259) 0 37 (1 : Int32)) 0 38 (0 : Int32))) rfl ?_
    exact wpc_ret rfl rfl (fun _ => rfl) rfl ⟨rfl, h260⟩
theorem l2r0W1_in (N : Nat) (sg : Nat → Int32) (a1 : Int32) (s : St) (Q : Int32 → Wd → Prop) (h : ((a1 < (Int32.ofNat N)) → inb N a1 ∧ Q (sg (ix a1)) (W1 s)) ∧ (¬ (a1 < (Int32.ofNat N)) → Q (0 : Int32) (W1 s))) : lalI PP QQ (some (N, sg)) 2 [.ref 0, .int a1] (W1 s) Q := by
  refine lal_of (me := lm2) (ls := [some (.ref 0), some (.int a1)]) rfl (Nat.le_of_ble_eq_true rfl) rfl ?_
  refine wpl_sl (n := 2) (pc' := 2) (ls' := [some (.ref 0), some (.int a1)]) (st' := [.ref 0, .int a1]) rfl ?_
  refine wpl_len rfl ?_
  refine wpl_icmp (a := 12) (b := 6) rfl (by decide) rfl rfl (wpl_br (p := a1 < (Int32.ofNat N)) ⟨fun hc267 => ?_, fun hc267 => ?_⟩)
  · have h268 := h.1 hc267
    refine wpl_sl (n := 2) (pc' := 8) (ls' := [some (.ref 0), some (.int a1)]) (st' := [.int a1, .ref 0]) rfl ?_
    refine wpl_lda rfl h268.1 ?_
    have h270 := h268.2
    refine wpl_sl (n := 1) (pc' := 13) (ls' := [some (.ref 0), some (.int a1)]) (st' := [.int (sg (ix a1))]) rfl ?_
    exact wpl_ret rfl rfl rfl ⟨(sg (ix a1)), rfl, h270⟩
  · have h269 := h.2 hc267
    refine wpl_sl (n := 1) (pc' := 13) (ls' := [some (.ref 0), some (.int a1)]) (st' := [.int (0 : Int32)]) rfl ?_
    exact wpl_ret rfl rfl rfl ⟨(0 : Int32), rfl, h269⟩
theorem c23_in (a1 : Int32) (s : St) (Q : St → Prop) (h : inb 8 a1 ∧ inb 8 a1 ∧ inb 8 a1 ∧ inb 8 a1 ∧ Q (sI (sI (sI (sI s 5 (ix a1) (0 : Int32)) 6 (ix a1) (0 : Int32)) 7 (ix a1) (0 : Int32)) 8 (ix a1) (0 : Int32))) : calV PP 23 12 [.ref 0, .int a1] s Q := by
  refine cal_of (me := cm23) (ls := [some (.ref 0), some (.int a1)]) rfl (Nat.le_of_ble_eq_true rfl) rfl ?_
  refine wpc_sl (n := 4) (c' := 12) (pc' := 6) (ls' := [some (.ref 0), some (.int a1)]) (st' := [.int (0 : Int32), .int a1, .ref 5]) (s' := s) rfl ?_
  refine wpc_staZ (a := 4) (N := 8) (s' := (sI s 5 (ix a1) (0 : Int32))) rfl rfl (by decide) h.1 rfl ?_
  have h289 := h.2
  refine wpc_sl (n := 4) (c' := 12) (pc' := 13) (ls' := [some (.ref 0), some (.int a1)]) (st' := [.int (0 : Int32), .int a1, .ref 6]) (s' := (sI s 5 (ix a1) (0 : Int32))) rfl ?_
  refine wpc_staI (a := 5) (N := 8) (s' := (sI (sI s 5 (ix a1) (0 : Int32)) 6 (ix a1) (0 : Int32))) rfl rfl (by decide) h289.1 rfl ?_
  have h290 := h289.2
  refine wpc_sl (n := 4) (c' := 12) (pc' := 20) (ls' := [some (.ref 0), some (.int a1)]) (st' := [.int (0 : Int32), .int a1, .ref 7]) (s' := (sI (sI s 5 (ix a1) (0 : Int32)) 6 (ix a1) (0 : Int32))) rfl ?_
  refine wpc_staI (a := 6) (N := 8) (s' := (sI (sI (sI s 5 (ix a1) (0 : Int32)) 6 (ix a1) (0 : Int32)) 7 (ix a1) (0 : Int32))) rfl rfl (by decide) h290.1 rfl ?_
  have h291 := h290.2
  refine wpc_sl (n := 4) (c' := 12) (pc' := 27) (ls' := [some (.ref 0), some (.int a1)]) (st' := [.int (0 : Int32), .int a1, .ref 8]) (s' := (sI (sI (sI s 5 (ix a1) (0 : Int32)) 6 (ix a1) (0 : Int32)) 7 (ix a1) (0 : Int32))) rfl ?_
  refine wpc_staI (a := 7) (N := 8) (s' := (sI (sI (sI (sI s 5 (ix a1) (0 : Int32)) 6 (ix a1) (0 : Int32)) 7 (ix a1) (0 : Int32)) 8 (ix a1) (0 : Int32))) rfl rfl (by decide) h291.1 rfl ?_
  have h292 := h291.2
  exact wpc_ret rfl rfl (fun q => absurd q (by decide)) rfl ⟨rfl, h292⟩
theorem c2_in  (s : St) (Q : Int32 → St → Prop) (h : (((gI s 0 37) = (0 : Int32)) → Q (-1 : Int32) s) ∧ (¬ ((gI s 0 37) = (0 : Int32)) → (((gI s 0 38) < (gI s 0 40)) → (((gI s 0 38) < (0 : Int32)) → Q (-1 : Int32) s) ∧ (¬ ((gI s 0 38) < (0 : Int32)) → (((7 : Int32) < (gI s 0 38)) → Q (-1 : Int32) s) ∧ (¬ ((7 : Int32) < (gI s 0 38)) → inb 8 (gI s 0 38) ∧ inb 8 (gI s 0 38) ∧ inb 8 (gI s 0 38) ∧ calV PP 23 12 [.ref 0, .int (gI s 0 38)] (sI (sI (sI s 2 (ix (gI s 0 38)) (1 : Int32)) 3 (ix (gI s 0 38)) (0 : Int32)) 4 (ix (gI s 0 38)) (0 : Int32)) (fun s286 => Q (gI s 0 38) (sI s286 0 38 ((gI s286 0 38) + (1 : Int32))))))) ∧ (¬ ((gI s 0 38) < (gI s 0 40)) → Q (-1 : Int32) s))) : calI PP 2 12 [.ref 0] s Q := by
  refine cal_of (me := cm2) (ls := [some (.ref 0), none]) rfl (Nat.le_of_ble_eq_true rfl) rfl ?_
  refine wpc_sl (n := 2) (c' := 12) (pc' := 4) (ls' := [some (.ref 0), none]) (st' := [.int (gI s 0 37)]) (s' := s) rfl ?_
  refine wpc_if (a := 9) (b := 7) rfl (by decide) rfl rfl (wpc_br (p := (gI s 0 37) = (0 : Int32)) ⟨fun hc271 => ?_, fun hc271 => ?_⟩)
  · have h272 := h.1 hc271
    refine wpc_sl (n := 1) (c' := 12) (pc' := 8) (ls' := [some (.ref 0), none]) (st' := [.int (-1 : Int32)]) (s' := s) rfl ?_
    exact wpc_ret rfl rfl (fun q => absurd q (by decide)) rfl ⟨(-1 : Int32), rfl, h272⟩
  · have h273 := h.2 hc271
    refine wpc_sl (n := 4) (c' := 12) (pc' := 17) (ls' := [some (.ref 0), none]) (st' := [.int (gI s 0 40), .int (gI s 0 38)]) (s' := s) rfl ?_
    refine wpc_icmp (a := 22) (b := 20) rfl (by decide) rfl rfl (wpc_br (p := (gI s 0 38) < (gI s 0 40)) ⟨fun hc274 => ?_, fun hc274 => ?_⟩)
    · have h275 := h273.1 hc274
      refine wpc_sl (n := 4) (c' := 12) (pc' := 28) (ls' := [some (.ref 0), some (.int (gI s 0 38))]) (st' := [.int (gI s 0 38)]) (s' := s) rfl ?_
      refine wpc_if (a := 37) (b := 31) rfl (by decide) rfl rfl (wpc_br (p := (gI s 0 38) < (0 : Int32)) ⟨fun hc277 => ?_, fun hc277 => ?_⟩)
      · have h278 := h275.1 hc277
        refine wpc_sl (n := 1) (c' := 12) (pc' := 38) (ls' := [some (.ref 0), some (.int (gI s 0 38))]) (st' := [.int (-1 : Int32)]) (s' := s) rfl ?_
        exact wpc_ret rfl rfl (fun q => absurd q (by decide)) rfl ⟨(-1 : Int32), rfl, h278⟩
      · have h279 := h275.2 hc277
        refine wpc_sl (n := 2) (c' := 12) (pc' := 34) (ls' := [some (.ref 0), some (.int (gI s 0 38))]) (st' := [.int (7 : Int32), .int (gI s 0 38)]) (s' := s) rfl ?_
        refine wpc_icmp (a := 39) (b := 37) rfl (by decide) rfl rfl (wpc_br (p := (7 : Int32) < (gI s 0 38)) ⟨fun hc280 => ?_, fun hc280 => ?_⟩)
        · have h281 := h279.1 hc280
          refine wpc_sl (n := 1) (c' := 12) (pc' := 38) (ls' := [some (.ref 0), some (.int (gI s 0 38))]) (st' := [.int (-1 : Int32)]) (s' := s) rfl ?_
          exact wpc_ret rfl rfl (fun q => absurd q (by decide)) rfl ⟨(-1 : Int32), rfl, h281⟩
        · have h282 := h279.2 hc280
          refine wpc_sl (n := 4) (c' := 12) (pc' := 45) (ls' := [some (.ref 0), some (.int (gI s 0 38))]) (st' := [.int (1 : Int32), .int (gI s 0 38), .ref 2]) (s' := s) rfl ?_
          refine wpc_staI (a := 1) (N := 8) (s' := (sI s 2 (ix (gI s 0 38)) (1 : Int32))) rfl rfl (by decide) h282.1 rfl ?_
          have h283 := h282.2
          refine wpc_sl (n := 4) (c' := 12) (pc' := 52) (ls' := [some (.ref 0), some (.int (gI s 0 38))]) (st' := [.int (0 : Int32), .int (gI s 0 38), .ref 3]) (s' := (sI s 2 (ix (gI s 0 38)) (1 : Int32))) rfl ?_
          refine wpc_staI (a := 2) (N := 8) (s' := (sI (sI s 2 (ix (gI s 0 38)) (1 : Int32)) 3 (ix (gI s 0 38)) (0 : Int32))) rfl rfl (by decide) h283.1 rfl ?_
          have h284 := h283.2
          refine wpc_sl (n := 4) (c' := 12) (pc' := 59) (ls' := [some (.ref 0), some (.int (gI s 0 38))]) (st' := [.int (0 : Int32), .int (gI s 0 38), .ref 4]) (s' := (sI (sI s 2 (ix (gI s 0 38)) (1 : Int32)) 3 (ix (gI s 0 38)) (0 : Int32))) rfl ?_
          refine wpc_staI (a := 3) (N := 8) (s' := (sI (sI (sI s 2 (ix (gI s 0 38)) (1 : Int32)) 3 (ix (gI s 0 38)) (0 : Int32)) 4 (ix (gI s 0 38)) (0 : Int32))) rfl rfl (by decide) h284.1 rfl ?_
          have h285 := h284.2
          refine wpc_sl (n := 2) (c' := 12) (pc' := 62) (ls' := [some (.ref 0), some (.int (gI s 0 38))]) (st' := [.int (gI s 0 38), .ref 0]) (s' := (sI (sI (sI s 2 (ix (gI s 0 38)) (1 : Int32)) 3 (ix (gI s 0 38)) (0 : Int32)) 4 (ix (gI s 0 38)) (0 : Int32))) rfl ?_
          refine wpc_callV (m' := 23) (me' := cm23) (as := [.int (gI s 0 38)]) (r := []) rfl rfl rfl rfl rfl ⟨by decide, (by first | decide | exact Nat.le_of_ble_eq_true rfl), (by first | decide | exact Nat.le_of_ble_eq_true rfl), rfl⟩ (calV.mono h285 fun s286 h288 => ?_)
          refine wpc_sl (n := 7) (c' := 12) (pc' := 76) (ls' := [some (.ref 0), some (.int (gI s 0 38))]) (st' := [.int (gI s 0 38)]) (s' := (sI s286 0 38 ((gI s286 0 38) + (1 : Int32)))) rfl ?_
          exact wpc_ret rfl rfl (fun q => absurd q (by decide)) rfl ⟨(gI s 0 38), rfl, h288⟩
    · have h276 := h273.2 hc274
      refine wpc_sl (n := 1) (c' := 12) (pc' := 21) (ls' := [some (.ref 0), none]) (st' := [.int (-1 : Int32)]) (s' := s) rfl ?_
      exact wpc_ret rfl rfl (fun q => absurd q (by decide)) rfl ⟨(-1 : Int32), rfl, h276⟩
theorem c19_in (a1 : Int32) (s : St) (Q : Int32 → St → Prop) (h : ((a1 < (0 : Int32)) → Q (0 : Int32) s) ∧ (¬ (a1 < (0 : Int32)) → (((7 : Int32) < a1) → Q (0 : Int32) s) ∧ (¬ ((7 : Int32) < a1) → Q (1 : Int32) s))) : calI PP 19 12 [.ref 0, .int a1] s Q := by
  refine cal_of (me := cm19) (ls := [some (.ref 0), some (.int a1)]) rfl (Nat.le_of_ble_eq_true rfl) rfl ?_
  refine wpc_sl (n := 1) (c' := 12) (pc' := 1) (ls' := [some (.ref 0), some (.int a1)]) (st' := [.int a1]) (s' := s) rfl ?_
  refine wpc_if (a := 14) (b := 4) rfl (by decide) rfl rfl (wpc_br (p := a1 < (0 : Int32)) ⟨fun hc320 => ?_, fun hc320 => ?_⟩)
  · have h321 := h.1 hc320
    refine wpc_sl (n := 1) (c' := 12) (pc' := 15) (ls' := [some (.ref 0), some (.int a1)]) (st' := [.int (0 : Int32)]) (s' := s) rfl ?_
    exact wpc_ret rfl rfl (fun q => absurd q (by decide)) rfl ⟨(0 : Int32), rfl, h321⟩
  · have h322 := h.2 hc320
    refine wpc_sl (n := 2) (c' := 12) (pc' := 7) (ls' := [some (.ref 0), some (.int a1)]) (st' := [.int (7 : Int32), .int a1]) (s' := s) rfl ?_
    refine wpc_icmp (a := 14) (b := 10) rfl (by decide) rfl rfl (wpc_br (p := (7 : Int32) < a1) ⟨fun hc323 => ?_, fun hc323 => ?_⟩)
    · have h324 := h322.1 hc323
      refine wpc_sl (n := 1) (c' := 12) (pc' := 15) (ls' := [some (.ref 0), some (.int a1)]) (st' := [.int (0 : Int32)]) (s' := s) rfl ?_
      exact wpc_ret rfl rfl (fun q => absurd q (by decide)) rfl ⟨(0 : Int32), rfl, h324⟩
    · have h325 := h322.2 hc323
      refine wpc_sl (n := 2) (c' := 12) (pc' := 15) (ls' := [some (.ref 0), some (.int a1)]) (st' := [.int (1 : Int32)]) (s' := s) rfl ?_
      exact wpc_ret rfl rfl (fun q => absurd q (by decide)) rfl ⟨(1 : Int32), rfl, h325⟩
theorem c21_in (a1 : Int32) (a2 : Int32) (s : St) (Q : Int32 → St → Prop) (h : Q ((a1 * (6 : Int32)) + a2) s) : calI PP 21 12 [.ref 0, .int a1, .int a2] s Q := by
  refine cal_of (me := cm21) (ls := [some (.ref 0), some (.int a1), some (.int a2)]) rfl (Nat.le_of_ble_eq_true rfl) rfl ?_
  refine wpc_sl (n := 5) (c' := 12) (pc' := 6) (ls' := [some (.ref 0), some (.int a1), some (.int a2)]) (st' := [.int ((a1 * (6 : Int32)) + a2)]) (s' := s) rfl ?_
  exact wpc_ret rfl rfl (fun q => absurd q (by decide)) rfl ⟨((a1 * (6 : Int32)) + a2), rfl, h⟩
theorem c25_in (a1 : Int32) (s : St) (Q : Int32 → St → Prop) (h : (((gI s 0 37) = (0 : Int32)) → Q (-1 : Int32) s) ∧ (¬ ((gI s 0 37) = (0 : Int32)) → inb 8 a1 ∧ (((gI s 2 (ix a1)) = (2 : Int32)) → wpcI PP 25 cm25 12 41 [some (.ref 0), some (.int a1), some (.int (1 : Int32)), none, none] [] s Q) ∧ (¬ ((gI s 2 (ix a1)) = (2 : Int32)) → inb 8 a1 ∧ (((gI s 2 (ix a1)) = (3 : Int32)) → wpcI PP 25 cm25 12 41 [some (.ref 0), some (.int a1), some (.int (4 : Int32)), none, none] [] s Q) ∧ (¬ ((gI s 2 (ix a1)) = (3 : Int32)) → Q (-1 : Int32) s)))) : calI PP 25 12 [.ref 0, .int a1] s Q := by
  refine cal_of (me := cm25) (ls := [some (.ref 0), some (.int a1), none, none, none]) rfl (Nat.le_of_ble_eq_true rfl) rfl ?_
  refine wpc_sl (n := 2) (c' := 12) (pc' := 4) (ls' := [some (.ref 0), some (.int a1), none, none, none]) (st' := [.int (gI s 0 37)]) (s' := s) rfl ?_
  refine wpc_if (a := 9) (b := 7) rfl (by decide) rfl rfl (wpc_br (p := (gI s 0 37) = (0 : Int32)) ⟨fun hc326 => ?_, fun hc326 => ?_⟩)
  · have h327 := h.1 hc326
    refine wpc_sl (n := 1) (c' := 12) (pc' := 8) (ls' := [some (.ref 0), some (.int a1), none, none, none]) (st' := [.int (-1 : Int32)]) (s' := s) rfl ?_
    exact wpc_ret rfl rfl (fun q => absurd q (by decide)) rfl ⟨(-1 : Int32), rfl, h327⟩
  · have h328 := h.2 hc326
    refine wpc_sl (n := 3) (c' := 12) (pc' := 14) (ls' := [some (.ref 0), some (.int a1), none, none, none]) (st' := [.int a1, .ref 2]) (s' := s) rfl ?_
    refine wpc_ldaI (a := 1) (N := 8) (v := (gI s 2 (ix a1))) rfl rfl (by decide) h328.1 rfl ?_
    have h329 := h328.2
    refine wpc_sl (n := 1) (c' := 12) (pc' := 16) (ls' := [some (.ref 0), some (.int a1), none, none, none]) (st' := [.int (2 : Int32), .int (gI s 2 (ix a1))]) (s' := s) rfl ?_
    refine wpc_icmp (a := 24) (b := 19) rfl (by decide) rfl rfl (wpc_br (p := (gI s 2 (ix a1)) = (2 : Int32)) ⟨fun hc330 => ?_, fun hc330 => ?_⟩)
    · have h331 := h329.1 hc330
      refine wpc_sl (n := 3) (c' := 12) (pc' := 41) (ls' := [some (.ref 0), some (.int a1), some (.int (1 : Int32)), none, none]) (st' := []) (s' := s) rfl ?_
      exact h331
    · have h332 := h329.2 hc330
      refine wpc_sl (n := 3) (c' := 12) (pc' := 29) (ls' := [some (.ref 0), some (.int a1), none, none, none]) (st' := [.int a1, .ref 2]) (s' := s) rfl ?_
      refine wpc_ldaI (a := 1) (N := 8) (v := (gI s 2 (ix a1))) rfl rfl (by decide) h332.1 rfl ?_
      have h333 := h332.2
      refine wpc_sl (n := 1) (c' := 12) (pc' := 31) (ls' := [some (.ref 0), some (.int a1), none, none, none]) (st' := [.int (3 : Int32), .int (gI s 2 (ix a1))]) (s' := s) rfl ?_
      refine wpc_icmp (a := 39) (b := 34) rfl (by decide) rfl rfl (wpc_br (p := (gI s 2 (ix a1)) = (3 : Int32)) ⟨fun hc334 => ?_, fun hc334 => ?_⟩)
      · have h335 := h333.1 hc334
        refine wpc_sl (n := 3) (c' := 12) (pc' := 41) (ls' := [some (.ref 0), some (.int a1), some (.int (4 : Int32)), none, none]) (st' := []) (s' := s) rfl ?_
        exact h335
      · have h336 := h333.2 hc334
        refine wpc_sl (n := 1) (c' := 12) (pc' := 40) (ls' := [some (.ref 0), some (.int a1), none, none, none]) (st' := [.int (-1 : Int32)]) (s' := s) rfl ?_
        exact wpc_ret rfl rfl (fun q => absurd q (by decide)) rfl ⟨(-1 : Int32), rfl, h336⟩
theorem c25_41 (x1 : Int32) (x2 : Int32) (s : St) (Q : Int32 → St → Prop) (h : inb 8 x1 ∧ wpcI PP 25 cm25 12 51 [some (.ref 0), some (.int x1), some (.int x2), some (.int (gI s 3 (ix x1))), some (.int (0 : Int32))] [] s Q) : wpcI PP 25 cm25 12 41 [some (.ref 0), some (.int x1), some (.int x2), none, none] [] s Q := by
  refine wpc_sl (n := 3) (c' := 12) (pc' := 46) (ls' := [some (.ref 0), some (.int x1), some (.int x2), none, none]) (st' := [.int x1, .ref 3]) (s' := s) rfl ?_
  refine wpc_ldaI (a := 2) (N := 8) (v := (gI s 3 (ix x1))) rfl rfl (by decide) h.1 rfl ?_
  have h337 := h.2
  refine wpc_sl (n := 3) (c' := 12) (pc' := 51) (ls' := [some (.ref 0), some (.int x1), some (.int x2), some (.int (gI s 3 (ix x1))), some (.int (0 : Int32))]) (st' := []) (s' := s) rfl ?_
  exact h337
theorem c25_51 (x1 : Int32) (x2 : Int32) (x3 : Int32) (x4 : Int32) (s : St) (Q : Int32 → St → Prop) (h : ((x4 < x3) → ((x4 < (6 : Int32)) → calI PP 21 12 [.ref 0, .int x1, .int x4] s (fun v345 s344 => inb 48 v345 ∧ (((gI s344 11 (ix v345)) = x2) → Q x4 s344) ∧ (¬ ((gI s344 11 (ix v345)) = x2) → wpcI PP 25 cm25 12 51 [some (.ref 0), some (.int x1), some (.int x2), some (.int x3), some (.int (x4 + (1 : Int32)))] [] s344 Q))) ∧ (¬ (x4 < (6 : Int32)) → Q (-1 : Int32) s)) ∧ (¬ (x4 < x3) → Q (-1 : Int32) s)) : wpcI PP 25 cm25 12 51 [some (.ref 0), some (.int x1), some (.int x2), some (.int x3), some (.int x4)] [] s Q := by
  refine wpc_sl (n := 2) (c' := 12) (pc' := 54) (ls' := [some (.ref 0), some (.int x1), some (.int x2), some (.int x3), some (.int x4)]) (st' := [.int x3, .int x4]) (s' := s) rfl ?_
  refine wpc_icmp (a := 89) (b := 57) rfl (by decide) rfl rfl (wpc_br (p := x4 < x3) ⟨fun hc338 => ?_, fun hc338 => ?_⟩)
  · have h339 := h.1 hc338
    refine wpc_sl (n := 2) (c' := 12) (pc' := 61) (ls' := [some (.ref 0), some (.int x1), some (.int x2), some (.int x3), some (.int x4)]) (st' := [.int (6 : Int32), .int x4]) (s' := s) rfl ?_
    refine wpc_icmp (a := 89) (b := 64) rfl (by decide) rfl rfl (wpc_br (p := x4 < (6 : Int32)) ⟨fun hc341 => ?_, fun hc341 => ?_⟩)
    · have h342 := h339.1 hc341
      refine wpc_sl (n := 5) (c' := 12) (pc' := 72) (ls' := [some (.ref 0), some (.int x1), some (.int x2), some (.int x3), some (.int x4)]) (st' := [.int x4, .int x1, .ref 0, .ref 11]) (s' := s) rfl ?_
      refine wpc_callI (m' := 21) (me' := cm21) (as := [.int x1, .int x4]) (r := [.ref 11]) rfl rfl rfl rfl rfl ⟨by decide, (by first | decide | exact Nat.le_of_ble_eq_true rfl), (by first | decide | exact Nat.le_of_ble_eq_true rfl), rfl⟩ (calI.mono h342 fun v345 s344 h346 => ?_)
      refine wpc_ldaI (a := 10) (N := 48) (v := (gI s344 11 (ix v345))) rfl rfl (by decide) h346.1 rfl ?_
      have h347 := h346.2
      refine wpc_sl (n := 1) (c' := 12) (pc' := 77) (ls' := [some (.ref 0), some (.int x1), some (.int x2), some (.int x3), some (.int x4)]) (st' := [.int x2, .int (gI s344 11 (ix v345))]) (s' := s344) rfl ?_
      refine wpc_icmp (a := 83) (b := 80) rfl (by decide) rfl rfl (wpc_br (p := (gI s344 11 (ix v345)) = x2) ⟨fun hc348 => ?_, fun hc348 => ?_⟩)
      · have h349 := h347.1 hc348
        refine wpc_sl (n := 1) (c' := 12) (pc' := 82) (ls' := [some (.ref 0), some (.int x1), some (.int x2), some (.int x3), some (.int x4)]) (st' := [.int x4]) (s' := s344) rfl ?_
        exact wpc_ret rfl rfl (fun q => absurd q (by decide)) rfl ⟨x4, rfl, h349⟩
      · have h350 := h347.2 hc348
        refine wpc_sl (n := 2) (c' := 12) (pc' := 51) (ls' := [some (.ref 0), some (.int x1), some (.int x2), some (.int x3), some (.int (x4 + (1 : Int32)))]) (st' := []) (s' := s344) rfl ?_
        exact h350
    · have h343 := h339.2 hc341
      refine wpc_sl (n := 1) (c' := 12) (pc' := 90) (ls' := [some (.ref 0), some (.int x1), some (.int x2), some (.int x3), some (.int x4)]) (st' := [.int (-1 : Int32)]) (s' := s) rfl ?_
      exact wpc_ret rfl rfl (fun q => absurd q (by decide)) rfl ⟨(-1 : Int32), rfl, h343⟩
  · have h340 := h.2 hc338
    refine wpc_sl (n := 1) (c' := 12) (pc' := 90) (ls' := [some (.ref 0), some (.int x1), some (.int x2), some (.int x3), some (.int x4)]) (st' := [.int (-1 : Int32)]) (s' := s) rfl ?_
    exact wpc_ret rfl rfl (fun q => absurd q (by decide)) rfl ⟨(-1 : Int32), rfl, h340⟩
theorem c26_in (a1 : Int32) (s : St) (Q : Int32 → St → Prop) (h : inb 8 a1 ∧ (((gI s 2 (ix a1)) = (2 : Int32)) → Q (1 : Int32) s) ∧ (¬ ((gI s 2 (ix a1)) = (2 : Int32)) → Q (2 : Int32) s)) : calI PP 26 12 [.ref 0, .int a1] s Q := by
  refine cal_of (me := cm26) (ls := [some (.ref 0), some (.int a1)]) rfl (Nat.le_of_ble_eq_true rfl) rfl ?_
  refine wpc_sl (n := 3) (c' := 12) (pc' := 5) (ls' := [some (.ref 0), some (.int a1)]) (st' := [.int a1, .ref 2]) (s' := s) rfl ?_
  refine wpc_ldaI (a := 1) (N := 8) (v := (gI s 2 (ix a1))) rfl rfl (by decide) h.1 rfl ?_
  have h351 := h.2
  refine wpc_sl (n := 1) (c' := 12) (pc' := 7) (ls' := [some (.ref 0), some (.int a1)]) (st' := [.int (2 : Int32), .int (gI s 2 (ix a1))]) (s' := s) rfl ?_
  refine wpc_icmp (a := 12) (b := 10) rfl (by decide) rfl rfl (wpc_br (p := (gI s 2 (ix a1)) = (2 : Int32)) ⟨fun hc352 => ?_, fun hc352 => ?_⟩)
  · have h353 := h351.1 hc352
    refine wpc_sl (n := 1) (c' := 12) (pc' := 11) (ls' := [some (.ref 0), some (.int a1)]) (st' := [.int (1 : Int32)]) (s' := s) rfl ?_
    exact wpc_ret rfl rfl (fun q => absurd q (by decide)) rfl ⟨(1 : Int32), rfl, h353⟩
  · have h354 := h351.2 hc352
    refine wpc_sl (n := 1) (c' := 12) (pc' := 13) (ls' := [some (.ref 0), some (.int a1)]) (st' := [.int (2 : Int32)]) (s' := s) rfl ?_
    exact wpc_ret rfl rfl (fun q => absurd q (by decide)) rfl ⟨(2 : Int32), rfl, h354⟩
theorem c30_in (a1 : Int32) (s : St) (Q : St → Prop) (h : inb 48 a1 ∧ (((gI s 12 (ix a1)) = (0 : Int32)) → inb 48 a1 ∧ (((gI s 9 (ix a1)) < (0 : Int32)) → Q s) ∧ (¬ ((gI s 9 (ix a1)) < (0 : Int32)) → (((3 : Int32) < (gI s 9 (ix a1))) → Q s) ∧ (¬ ((3 : Int32) < (gI s 9 (ix a1))) → inb 4 (gI s 9 (ix a1)) ∧ inb 48 a1 ∧ (((gI s 1 (ix (gI s 9 (ix a1)))) < (gI s 10 (ix a1))) → inb 48 a1 ∧ Q (sI s 12 (ix a1) (2 : Int32))) ∧ (¬ ((gI s 1 (ix (gI s 9 (ix a1)))) < (gI s 10 (ix a1))) → inb 4 (gI s 9 (ix a1)) ∧ inb 48 a1 ∧ inb 4 (gI s 9 (ix a1)) ∧ inb 48 a1 ∧ Q (sI (sI s 1 (ix (gI s 9 (ix a1))) ((gI s 1 (ix (gI s 9 (ix a1)))) - (gI s 10 (ix a1)))) 12 (ix a1) (1 : Int32)))))) ∧ (¬ ((gI s 12 (ix a1)) = (0 : Int32)) → Q s)) : calV PP 30 12 [.ref 0, .int a1] s Q := by
  refine cal_of (me := cm30) (ls := [some (.ref 0), some (.int a1), none]) rfl (Nat.le_of_ble_eq_true rfl) rfl ?_
  refine wpc_sl (n := 3) (c' := 12) (pc' := 5) (ls' := [some (.ref 0), some (.int a1), none]) (st' := [.int a1, .ref 12]) (s' := s) rfl ?_
  refine wpc_ldaI (a := 11) (N := 48) (v := (gI s 12 (ix a1))) rfl rfl (by decide) h.1 rfl ?_
  have h369 := h.2
  refine wpc_if (a := 10) (b := 9) rfl (by decide) rfl rfl (wpc_br (p := (gI s 12 (ix a1)) = (0 : Int32)) ⟨fun hc370 => ?_, fun hc370 => ?_⟩)
  · have h371 := h369.1 hc370
    refine wpc_sl (n := 3) (c' := 12) (pc' := 15) (ls' := [some (.ref 0), some (.int a1), none]) (st' := [.int a1, .ref 9]) (s' := s) rfl ?_
    refine wpc_ldaI (a := 8) (N := 48) (v := (gI s 9 (ix a1))) rfl rfl (by decide) h371.1 rfl ?_
    have h373 := h371.2
    refine wpc_sl (n := 2) (c' := 12) (pc' := 18) (ls' := [some (.ref 0), some (.int a1), some (.int (gI s 9 (ix a1)))]) (st' := [.int (gI s 9 (ix a1))]) (s' := s) rfl ?_
    refine wpc_if (a := 26) (b := 21) rfl (by decide) rfl rfl (wpc_br (p := (gI s 9 (ix a1)) < (0 : Int32)) ⟨fun hc374 => ?_, fun hc374 => ?_⟩)
    · have h375 := h373.1 hc374
      exact wpc_ret rfl rfl (fun q => absurd q (by decide)) rfl ⟨rfl, h375⟩
    · have h376 := h373.2 hc374
      refine wpc_sl (n := 2) (c' := 12) (pc' := 23) (ls' := [some (.ref 0), some (.int a1), some (.int (gI s 9 (ix a1)))]) (st' := [.int (3 : Int32), .int (gI s 9 (ix a1))]) (s' := s) rfl ?_
      refine wpc_icmp (a := 27) (b := 26) rfl (by decide) rfl rfl (wpc_br (p := (3 : Int32) < (gI s 9 (ix a1))) ⟨fun hc377 => ?_, fun hc377 => ?_⟩)
      · have h378 := h376.1 hc377
        exact wpc_ret rfl rfl (fun q => absurd q (by decide)) rfl ⟨rfl, h378⟩
      · have h379 := h376.2 hc377
        refine wpc_sl (n := 3) (c' := 12) (pc' := 32) (ls' := [some (.ref 0), some (.int a1), some (.int (gI s 9 (ix a1)))]) (st' := [.int (gI s 9 (ix a1)), .ref 1]) (s' := s) rfl ?_
        refine wpc_ldaI (a := 0) (N := 4) (v := (gI s 1 (ix (gI s 9 (ix a1))))) rfl rfl (by decide) h379.1 rfl ?_
        have h380 := h379.2
        refine wpc_sl (n := 3) (c' := 12) (pc' := 38) (ls' := [some (.ref 0), some (.int a1), some (.int (gI s 9 (ix a1)))]) (st' := [.int a1, .ref 10, .int (gI s 1 (ix (gI s 9 (ix a1))))]) (s' := s) rfl ?_
        refine wpc_ldaI (a := 9) (N := 48) (v := (gI s 10 (ix a1))) rfl rfl (by decide) h380.1 rfl ?_
        have h381 := h380.2
        refine wpc_icmp (a := 71) (b := 42) rfl (by decide) rfl rfl (wpc_br (p := (gI s 1 (ix (gI s 9 (ix a1)))) < (gI s 10 (ix a1))) ⟨fun hc382 => ?_, fun hc382 => ?_⟩)
        · have h383 := h381.1 hc382
          refine wpc_sl (n := 4) (c' := 12) (pc' := 77) (ls' := [some (.ref 0), some (.int a1), some (.int (gI s 9 (ix a1)))]) (st' := [.int (2 : Int32), .int a1, .ref 12]) (s' := s) rfl ?_
          refine wpc_staI (a := 11) (N := 48) (s' := (sI s 12 (ix a1) (2 : Int32))) rfl rfl (by decide) h383.1 rfl ?_
          have h385 := h383.2
          exact wpc_ret rfl rfl (fun q => absurd q (by decide)) rfl ⟨rfl, h385⟩
        · have h384 := h381.2 hc382
          refine wpc_sl (n := 6) (c' := 12) (pc' := 52) (ls' := [some (.ref 0), some (.int a1), some (.int (gI s 9 (ix a1)))]) (st' := [.int (gI s 9 (ix a1)), .ref 1, .int (gI s 9 (ix a1)), .ref 1]) (s' := s) rfl ?_
          refine wpc_ldaI (a := 0) (N := 4) (v := (gI s 1 (ix (gI s 9 (ix a1))))) rfl rfl (by decide) h384.1 rfl ?_
          have h386 := h384.2
          refine wpc_sl (n := 3) (c' := 12) (pc' := 58) (ls' := [some (.ref 0), some (.int a1), some (.int (gI s 9 (ix a1)))]) (st' := [.int a1, .ref 10, .int (gI s 1 (ix (gI s 9 (ix a1)))), .int (gI s 9 (ix a1)), .ref 1]) (s' := s) rfl ?_
          refine wpc_ldaI (a := 9) (N := 48) (v := (gI s 10 (ix a1))) rfl rfl (by decide) h386.1 rfl ?_
          have h387 := h386.2
          refine wpc_sl (n := 1) (c' := 12) (pc' := 60) (ls' := [some (.ref 0), some (.int a1), some (.int (gI s 9 (ix a1)))]) (st' := [.int ((gI s 1 (ix (gI s 9 (ix a1)))) - (gI s 10 (ix a1))), .int (gI s 9 (ix a1)), .ref 1]) (s' := s) rfl ?_
          refine wpc_staI (a := 0) (N := 4) (s' := (sI s 1 (ix (gI s 9 (ix a1))) ((gI s 1 (ix (gI s 9 (ix a1)))) - (gI s 10 (ix a1))))) rfl rfl (by decide) h387.1 rfl ?_
          have h388 := h387.2
          refine wpc_sl (n := 4) (c' := 12) (pc' := 67) (ls' := [some (.ref 0), some (.int a1), some (.int (gI s 9 (ix a1)))]) (st' := [.int (1 : Int32), .int a1, .ref 12]) (s' := (sI s 1 (ix (gI s 9 (ix a1))) ((gI s 1 (ix (gI s 9 (ix a1)))) - (gI s 10 (ix a1))))) rfl ?_
          refine wpc_staI (a := 11) (N := 48) (s' := (sI (sI s 1 (ix (gI s 9 (ix a1))) ((gI s 1 (ix (gI s 9 (ix a1)))) - (gI s 10 (ix a1)))) 12 (ix a1) (1 : Int32))) rfl rfl (by decide) h388.1 rfl ?_
          have h389 := h388.2
          refine wpc_sl (n := 1) (c' := 12) (pc' := 78) (ls' := [some (.ref 0), some (.int a1), some (.int (gI s 9 (ix a1)))]) (st' := []) (s' := (sI (sI s 1 (ix (gI s 9 (ix a1))) ((gI s 1 (ix (gI s 9 (ix a1)))) - (gI s 10 (ix a1)))) 12 (ix a1) (1 : Int32))) rfl ?_
          exact wpc_ret rfl rfl (fun q => absurd q (by decide)) rfl ⟨rfl, h389⟩
  · have h372 := h369.2 hc370
    exact wpc_ret rfl rfl (fun q => absurd q (by decide)) rfl ⟨rfl, h372⟩
theorem c31_in (a1 : Int32) (s : St) (Q : St → Prop) (h : inb 48 a1 ∧ (((gI s 9 (ix a1)) < (0 : Int32)) → Q s) ∧ (¬ ((gI s 9 (ix a1)) < (0 : Int32)) → (((3 : Int32) < (gI s 9 (ix a1))) → Q s) ∧ (¬ ((3 : Int32) < (gI s 9 (ix a1))) → inb 48 a1 ∧ (((gI s 12 (ix a1)) = (1 : Int32)) → inb 4 (gI s 9 (ix a1)) ∧ inb 48 a1 ∧ inb 4 (gI s 9 (ix a1)) ∧ inb 48 a1 ∧ Q (sI (sI s 1 (ix (gI s 9 (ix a1))) ((gI s 1 (ix (gI s 9 (ix a1)))) + (gI s 10 (ix a1)))) 12 (ix a1) (3 : Int32))) ∧ (¬ ((gI s 12 (ix a1)) = (1 : Int32)) → inb 48 a1 ∧ (((gI s 12 (ix a1)) = (0 : Int32)) → inb 48 a1 ∧ Q (sI s 12 (ix a1) (4 : Int32))) ∧ (¬ ((gI s 12 (ix a1)) = (0 : Int32)) → Q s))))) : calV PP 31 12 [.ref 0, .int a1] s Q := by
  refine cal_of (me := cm31) (ls := [some (.ref 0), some (.int a1), none]) rfl (Nat.le_of_ble_eq_true rfl) rfl ?_
  refine wpc_sl (n := 3) (c' := 12) (pc' := 5) (ls' := [some (.ref 0), some (.int a1), none]) (st' := [.int a1, .ref 9]) (s' := s) rfl ?_
  refine wpc_ldaI (a := 8) (N := 48) (v := (gI s 9 (ix a1))) rfl rfl (by decide) h.1 rfl ?_
  have h390 := h.2
  refine wpc_sl (n := 2) (c' := 12) (pc' := 8) (ls' := [some (.ref 0), some (.int a1), some (.int (gI s 9 (ix a1)))]) (st' := [.int (gI s 9 (ix a1))]) (s' := s) rfl ?_
  refine wpc_if (a := 16) (b := 11) rfl (by decide) rfl rfl (wpc_br (p := (gI s 9 (ix a1)) < (0 : Int32)) ⟨fun hc391 => ?_, fun hc391 => ?_⟩)
  · have h392 := h390.1 hc391
    exact wpc_ret rfl rfl (fun q => absurd q (by decide)) rfl ⟨rfl, h392⟩
  · have h393 := h390.2 hc391
    refine wpc_sl (n := 2) (c' := 12) (pc' := 13) (ls' := [some (.ref 0), some (.int a1), some (.int (gI s 9 (ix a1)))]) (st' := [.int (3 : Int32), .int (gI s 9 (ix a1))]) (s' := s) rfl ?_
    refine wpc_icmp (a := 17) (b := 16) rfl (by decide) rfl rfl (wpc_br (p := (3 : Int32) < (gI s 9 (ix a1))) ⟨fun hc394 => ?_, fun hc394 => ?_⟩)
    · have h395 := h393.1 hc394
      exact wpc_ret rfl rfl (fun q => absurd q (by decide)) rfl ⟨rfl, h395⟩
    · have h396 := h393.2 hc394
      refine wpc_sl (n := 3) (c' := 12) (pc' := 22) (ls' := [some (.ref 0), some (.int a1), some (.int (gI s 9 (ix a1)))]) (st' := [.int a1, .ref 12]) (s' := s) rfl ?_
      refine wpc_ldaI (a := 11) (N := 48) (v := (gI s 12 (ix a1))) rfl rfl (by decide) h396.1 rfl ?_
      have h397 := h396.2
      refine wpc_sl (n := 1) (c' := 12) (pc' := 24) (ls' := [some (.ref 0), some (.int a1), some (.int (gI s 9 (ix a1)))]) (st' := [.int (1 : Int32), .int (gI s 12 (ix a1))]) (s' := s) rfl ?_
      refine wpc_icmp (a := 56) (b := 27) rfl (by decide) rfl rfl (wpc_br (p := (gI s 12 (ix a1)) = (1 : Int32)) ⟨fun hc398 => ?_, fun hc398 => ?_⟩)
      · have h399 := h397.1 hc398
        refine wpc_sl (n := 6) (c' := 12) (pc' := 37) (ls' := [some (.ref 0), some (.int a1), some (.int (gI s 9 (ix a1)))]) (st' := [.int (gI s 9 (ix a1)), .ref 1, .int (gI s 9 (ix a1)), .ref 1]) (s' := s) rfl ?_
        refine wpc_ldaI (a := 0) (N := 4) (v := (gI s 1 (ix (gI s 9 (ix a1))))) rfl rfl (by decide) h399.1 rfl ?_
        have h401 := h399.2
        refine wpc_sl (n := 3) (c' := 12) (pc' := 43) (ls' := [some (.ref 0), some (.int a1), some (.int (gI s 9 (ix a1)))]) (st' := [.int a1, .ref 10, .int (gI s 1 (ix (gI s 9 (ix a1)))), .int (gI s 9 (ix a1)), .ref 1]) (s' := s) rfl ?_
        refine wpc_ldaI (a := 9) (N := 48) (v := (gI s 10 (ix a1))) rfl rfl (by decide) h401.1 rfl ?_
        have h402 := h401.2
        refine wpc_sl (n := 1) (c' := 12) (pc' := 45) (ls' := [some (.ref 0), some (.int a1), some (.int (gI s 9 (ix a1)))]) (st' := [.int ((gI s 1 (ix (gI s 9 (ix a1)))) + (gI s 10 (ix a1))), .int (gI s 9 (ix a1)), .ref 1]) (s' := s) rfl ?_
        refine wpc_staI (a := 0) (N := 4) (s' := (sI s 1 (ix (gI s 9 (ix a1))) ((gI s 1 (ix (gI s 9 (ix a1)))) + (gI s 10 (ix a1))))) rfl rfl (by decide) h402.1 rfl ?_
        have h403 := h402.2
        refine wpc_sl (n := 4) (c' := 12) (pc' := 52) (ls' := [some (.ref 0), some (.int a1), some (.int (gI s 9 (ix a1)))]) (st' := [.int (3 : Int32), .int a1, .ref 12]) (s' := (sI s 1 (ix (gI s 9 (ix a1))) ((gI s 1 (ix (gI s 9 (ix a1)))) + (gI s 10 (ix a1))))) rfl ?_
        refine wpc_staI (a := 11) (N := 48) (s' := (sI (sI s 1 (ix (gI s 9 (ix a1))) ((gI s 1 (ix (gI s 9 (ix a1)))) + (gI s 10 (ix a1)))) 12 (ix a1) (3 : Int32))) rfl rfl (by decide) h403.1 rfl ?_
        have h404 := h403.2
        refine wpc_sl (n := 1) (c' := 12) (pc' := 72) (ls' := [some (.ref 0), some (.int a1), some (.int (gI s 9 (ix a1)))]) (st' := []) (s' := (sI (sI s 1 (ix (gI s 9 (ix a1))) ((gI s 1 (ix (gI s 9 (ix a1)))) + (gI s 10 (ix a1)))) 12 (ix a1) (3 : Int32))) rfl ?_
        exact wpc_ret rfl rfl (fun q => absurd q (by decide)) rfl ⟨rfl, h404⟩
      · have h400 := h397.2 hc398
        refine wpc_sl (n := 3) (c' := 12) (pc' := 61) (ls' := [some (.ref 0), some (.int a1), some (.int (gI s 9 (ix a1)))]) (st' := [.int a1, .ref 12]) (s' := s) rfl ?_
        refine wpc_ldaI (a := 11) (N := 48) (v := (gI s 12 (ix a1))) rfl rfl (by decide) h400.1 rfl ?_
        have h405 := h400.2
        refine wpc_if (a := 72) (b := 65) rfl (by decide) rfl rfl (wpc_br (p := (gI s 12 (ix a1)) = (0 : Int32)) ⟨fun hc406 => ?_, fun hc406 => ?_⟩)
        · have h407 := h405.1 hc406
          refine wpc_sl (n := 4) (c' := 12) (pc' := 71) (ls' := [some (.ref 0), some (.int a1), some (.int (gI s 9 (ix a1)))]) (st' := [.int (4 : Int32), .int a1, .ref 12]) (s' := s) rfl ?_
          refine wpc_staI (a := 11) (N := 48) (s' := (sI s 12 (ix a1) (4 : Int32))) rfl rfl (by decide) h407.1 rfl ?_
          have h409 := h407.2
          exact wpc_ret rfl rfl (fun q => absurd q (by decide)) rfl ⟨rfl, h409⟩
        · have h408 := h405.2 hc406
          exact wpc_ret rfl rfl (fun q => absurd q (by decide)) rfl ⟨rfl, h408⟩
theorem c29_in (a1 : Int32) (a2 : Int32) (a3 : Int32) (s : St) (Q : Int32 → St → Prop) (h : calI PP 21 12 [.ref 0, .int a1, .int a2] s (fun v356 s355 => ((a3 = (1 : Int32)) → calV PP 30 12 [.ref 0, .int v356] s355 (fun s361 => inb 48 v356 ∧ Q (gI s361 12 (ix v356)) s361)) ∧ (¬ (a3 = (1 : Int32)) → calV PP 31 12 [.ref 0, .int v356] s355 (fun s365 => inb 48 v356 ∧ Q (gI s365 12 (ix v356)) s365)))) : calI PP 29 12 [.ref 0, .int a1, .int a2, .int a3] s Q := by
  refine cal_of (me := cm29) (ls := [some (.ref 0), some (.int a1), some (.int a2), some (.int a3), none]) rfl (Nat.le_of_ble_eq_true rfl) rfl ?_
  refine wpc_sl (n := 3) (c' := 12) (pc' := 3) (ls' := [some (.ref 0), some (.int a1), some (.int a2), some (.int a3), none]) (st' := [.int a2, .int a1, .ref 0]) (s' := s) rfl ?_
  refine wpc_callI (m' := 21) (me' := cm21) (as := [.int a1, .int a2]) (r := []) rfl rfl rfl rfl rfl ⟨by decide, (by first | decide | exact Nat.le_of_ble_eq_true rfl), (by first | decide | exact Nat.le_of_ble_eq_true rfl), rfl⟩ (calI.mono h fun v356 s355 h357 => ?_)
  refine wpc_sl (n := 3) (c' := 12) (pc' := 10) (ls' := [some (.ref 0), some (.int a1), some (.int a2), some (.int a3), some (.int v356)]) (st' := [.int (1 : Int32), .int a3]) (s' := s355) rfl ?_
  refine wpc_icmp (a := 22) (b := 13) rfl (by decide) rfl rfl (wpc_br (p := a3 = (1 : Int32)) ⟨fun hc358 => ?_, fun hc358 => ?_⟩)
  · have h359 := h357.1 hc358
    refine wpc_sl (n := 2) (c' := 12) (pc' := 16) (ls' := [some (.ref 0), some (.int a1), some (.int a2), some (.int a3), some (.int v356)]) (st' := [.int v356, .ref 0]) (s' := s355) rfl ?_
    refine wpc_callV (m' := 30) (me' := cm30) (as := [.int v356]) (r := []) rfl rfl rfl rfl rfl ⟨by decide, (by first | decide | exact Nat.le_of_ble_eq_true rfl), (by first | decide | exact Nat.le_of_ble_eq_true rfl), rfl⟩ (calV.mono h359 fun s361 h363 => ?_)
    refine wpc_sl (n := 4) (c' := 12) (pc' := 34) (ls' := [some (.ref 0), some (.int a1), some (.int a2), some (.int a3), some (.int v356)]) (st' := [.int v356, .ref 12]) (s' := s361) rfl ?_
    refine wpc_ldaI (a := 11) (N := 48) (v := (gI s361 12 (ix v356))) rfl rfl (by decide) h363.1 rfl ?_
    have h364 := h363.2
    exact wpc_ret rfl rfl (fun q => absurd q (by decide)) rfl ⟨(gI s361 12 (ix v356)), rfl, h364⟩
  · have h360 := h357.2 hc358
    refine wpc_sl (n := 2) (c' := 12) (pc' := 25) (ls' := [some (.ref 0), some (.int a1), some (.int a2), some (.int a3), some (.int v356)]) (st' := [.int v356, .ref 0]) (s' := s355) rfl ?_
    refine wpc_callV (m' := 31) (me' := cm31) (as := [.int v356]) (r := []) rfl rfl rfl rfl rfl ⟨by decide, (by first | decide | exact Nat.le_of_ble_eq_true rfl), (by first | decide | exact Nat.le_of_ble_eq_true rfl), rfl⟩ (calV.mono h360 fun s365 h367 => ?_)
    refine wpc_sl (n := 3) (c' := 12) (pc' := 34) (ls' := [some (.ref 0), some (.int a1), some (.int a2), some (.int a3), some (.int v356)]) (st' := [.int v356, .ref 12]) (s' := s365) rfl ?_
    refine wpc_ldaI (a := 11) (N := 48) (v := (gI s365 12 (ix v356))) rfl rfl (by decide) h367.1 rfl ?_
    have h368 := h367.2
    exact wpc_ret rfl rfl (fun q => absurd q (by decide)) rfl ⟨(gI s365 12 (ix v356)), rfl, h368⟩
theorem c28_in (a1 : Int32) (a2 : Int32) (s : St) (Q : Int32 → St → Prop) (h : ((a1 = (2 : Int32)) → Q (0 : Int32) s) ∧ (¬ (a1 = (2 : Int32)) → ((a2 = (1 : Int32)) → Q (0 : Int32) s) ∧ (¬ (a2 = (1 : Int32)) → ((a2 = (3 : Int32)) → Q (0 : Int32) s) ∧ (¬ (a2 = (3 : Int32)) → Q (1 : Int32) s)))) : calI PP 28 12 [.ref 0, .int a1, .int a2] s Q := by
  refine cal_of (me := cm28) (ls := [some (.ref 0), some (.int a1), some (.int a2)]) rfl (Nat.le_of_ble_eq_true rfl) rfl ?_
  refine wpc_sl (n := 2) (c' := 12) (pc' := 2) (ls' := [some (.ref 0), some (.int a1), some (.int a2)]) (st' := [.int (2 : Int32), .int a1]) (s' := s) rfl ?_
  refine wpc_icmp (a := 7) (b := 5) rfl (by decide) rfl rfl (wpc_br (p := a1 = (2 : Int32)) ⟨fun hc410 => ?_, fun hc410 => ?_⟩)
  · have h411 := h.1 hc410
    refine wpc_sl (n := 1) (c' := 12) (pc' := 6) (ls' := [some (.ref 0), some (.int a1), some (.int a2)]) (st' := [.int (0 : Int32)]) (s' := s) rfl ?_
    exact wpc_ret rfl rfl (fun q => absurd q (by decide)) rfl ⟨(0 : Int32), rfl, h411⟩
  · have h412 := h.2 hc410
    refine wpc_sl (n := 2) (c' := 12) (pc' := 9) (ls' := [some (.ref 0), some (.int a1), some (.int a2)]) (st' := [.int (1 : Int32), .int a2]) (s' := s) rfl ?_
    refine wpc_icmp (a := 17) (b := 12) rfl (by decide) rfl rfl (wpc_br (p := a2 = (1 : Int32)) ⟨fun hc413 => ?_, fun hc413 => ?_⟩)
    · have h414 := h412.1 hc413
      refine wpc_sl (n := 1) (c' := 12) (pc' := 18) (ls' := [some (.ref 0), some (.int a1), some (.int a2)]) (st' := [.int (0 : Int32)]) (s' := s) rfl ?_
      exact wpc_ret rfl rfl (fun q => absurd q (by decide)) rfl ⟨(0 : Int32), rfl, h414⟩
    · have h415 := h412.2 hc413
      refine wpc_sl (n := 2) (c' := 12) (pc' := 14) (ls' := [some (.ref 0), some (.int a1), some (.int a2)]) (st' := [.int (3 : Int32), .int a2]) (s' := s) rfl ?_
      refine wpc_icmp (a := 19) (b := 17) rfl (by decide) rfl rfl (wpc_br (p := a2 = (3 : Int32)) ⟨fun hc416 => ?_, fun hc416 => ?_⟩)
      · have h417 := h415.1 hc416
        refine wpc_sl (n := 1) (c' := 12) (pc' := 18) (ls' := [some (.ref 0), some (.int a1), some (.int a2)]) (st' := [.int (0 : Int32)]) (s' := s) rfl ?_
        exact wpc_ret rfl rfl (fun q => absurd q (by decide)) rfl ⟨(0 : Int32), rfl, h417⟩
      · have h418 := h415.2 hc416
        refine wpc_sl (n := 1) (c' := 12) (pc' := 20) (ls' := [some (.ref 0), some (.int a1), some (.int a2)]) (st' := [.int (1 : Int32)]) (s' := s) rfl ?_
        exact wpc_ret rfl rfl (fun q => absurd q (by decide)) rfl ⟨(1 : Int32), rfl, h418⟩
theorem c24_in (a1 : Int32) (a2 : Int32) (a3 : Int32) (a4 : Int32) (s : St) (Q : St → Prop) (h : inb 8 a1 ∧ inb 8 a1 ∧ inb 8 a1 ∧ inb 8 a1 ∧ Q (sI (sI (sI (sI s 5 (ix a1) (1 : Int32)) 6 (ix a1) a2) 7 (ix a1) a3) 8 (ix a1) a4)) : calV PP 24 12 [.ref 0, .int a1, .int a2, .int a3, .int a4] s Q := by
  refine cal_of (me := cm24) (ls := [some (.ref 0), some (.int a1), some (.int a2), some (.int a3), some (.int a4)]) rfl (Nat.le_of_ble_eq_true rfl) rfl ?_
  refine wpc_sl (n := 4) (c' := 12) (pc' := 6) (ls' := [some (.ref 0), some (.int a1), some (.int a2), some (.int a3), some (.int a4)]) (st' := [.int (1 : Int32), .int a1, .ref 5]) (s' := s) rfl ?_
  refine wpc_staZ (a := 4) (N := 8) (s' := (sI s 5 (ix a1) (1 : Int32))) rfl rfl (by decide) h.1 rfl ?_
  have h419 := h.2
  refine wpc_sl (n := 4) (c' := 12) (pc' := 13) (ls' := [some (.ref 0), some (.int a1), some (.int a2), some (.int a3), some (.int a4)]) (st' := [.int a2, .int a1, .ref 6]) (s' := (sI s 5 (ix a1) (1 : Int32))) rfl ?_
  refine wpc_staI (a := 5) (N := 8) (s' := (sI (sI s 5 (ix a1) (1 : Int32)) 6 (ix a1) a2)) rfl rfl (by decide) h419.1 rfl ?_
  have h420 := h419.2
  refine wpc_sl (n := 4) (c' := 12) (pc' := 20) (ls' := [some (.ref 0), some (.int a1), some (.int a2), some (.int a3), some (.int a4)]) (st' := [.int a3, .int a1, .ref 7]) (s' := (sI (sI s 5 (ix a1) (1 : Int32)) 6 (ix a1) a2)) rfl ?_
  refine wpc_staI (a := 6) (N := 8) (s' := (sI (sI (sI s 5 (ix a1) (1 : Int32)) 6 (ix a1) a2) 7 (ix a1) a3)) rfl rfl (by decide) h420.1 rfl ?_
  have h421 := h420.2
  refine wpc_sl (n := 4) (c' := 12) (pc' := 28) (ls' := [some (.ref 0), some (.int a1), some (.int a2), some (.int a3), some (.int a4)]) (st' := [.int a4, .int a1, .ref 8]) (s' := (sI (sI (sI s 5 (ix a1) (1 : Int32)) 6 (ix a1) a2) 7 (ix a1) a3)) rfl ?_
  refine wpc_staI (a := 7) (N := 8) (s' := (sI (sI (sI (sI s 5 (ix a1) (1 : Int32)) 6 (ix a1) a2) 7 (ix a1) a3) 8 (ix a1) a4)) rfl rfl (by decide) h421.1 rfl ?_
  have h422 := h421.2
  exact wpc_ret rfl rfl (fun q => absurd q (by decide)) rfl ⟨rfl, h422⟩
theorem c5_in (a1 : Int32) (s : St) (Q : Int32 → St → Prop) (h : (((gI s 0 37) = (0 : Int32)) → Q (-1 : Int32) s) ∧ (¬ ((gI s 0 37) = (0 : Int32)) → calI PP 19 12 [.ref 0, .int a1] s (fun v297 s296 => ((v297 = (0 : Int32)) → Q (-1 : Int32) s296) ∧ (¬ (v297 = (0 : Int32)) → calI PP 25 12 [.ref 0, .int a1] s296 (fun v303 s302 => ((v303 < (0 : Int32)) → Q (-1 : Int32) s302) ∧ (¬ (v303 < (0 : Int32)) → calI PP 26 12 [.ref 0, .int a1] s302 (fun v309 s308 => calI PP 29 12 [.ref 0, .int a1, .int v303, .int v309] s308 (fun v312 s311 => calI PP 28 12 [.ref 0, .int v309, .int v312] s311 (fun v315 s314 => calV PP 24 12 [.ref 0, .int a1, .int v303, .int v309, .int v315] s314 (fun s317 => Q v312 s317)))))))))) : calI PP 5 12 [.ref 0, .int a1] s Q := by
  refine cal_of (me := cm5) (ls := [some (.ref 0), some (.int a1), none, none, none, none]) rfl (Nat.le_of_ble_eq_true rfl) rfl ?_
  refine wpc_sl (n := 2) (c' := 12) (pc' := 4) (ls' := [some (.ref 0), some (.int a1), none, none, none, none]) (st' := [.int (gI s 0 37)]) (s' := s) rfl ?_
  refine wpc_if (a := 9) (b := 7) rfl (by decide) rfl rfl (wpc_br (p := (gI s 0 37) = (0 : Int32)) ⟨fun hc293 => ?_, fun hc293 => ?_⟩)
  · have h294 := h.1 hc293
    refine wpc_sl (n := 1) (c' := 12) (pc' := 8) (ls' := [some (.ref 0), some (.int a1), none, none, none, none]) (st' := [.int (-1 : Int32)]) (s' := s) rfl ?_
    exact wpc_ret rfl rfl (fun q => absurd q (by decide)) rfl ⟨(-1 : Int32), rfl, h294⟩
  · have h295 := h.2 hc293
    refine wpc_sl (n := 2) (c' := 12) (pc' := 11) (ls' := [some (.ref 0), some (.int a1), none, none, none, none]) (st' := [.int a1, .ref 0]) (s' := s) rfl ?_
    refine wpc_callI (m' := 19) (me' := cm19) (as := [.int a1]) (r := []) rfl rfl rfl rfl rfl ⟨by decide, (by first | decide | exact Nat.le_of_ble_eq_true rfl), (by first | decide | exact Nat.le_of_ble_eq_true rfl), rfl⟩ (calI.mono h295 fun v297 s296 h298 => ?_)
    refine wpc_if (a := 19) (b := 17) rfl (by decide) rfl rfl (wpc_br (p := v297 = (0 : Int32)) ⟨fun hc299 => ?_, fun hc299 => ?_⟩)
    · have h300 := h298.1 hc299
      refine wpc_sl (n := 1) (c' := 12) (pc' := 18) (ls' := [some (.ref 0), some (.int a1), none, none, none, none]) (st' := [.int (-1 : Int32)]) (s' := s296) rfl ?_
      exact wpc_ret rfl rfl (fun q => absurd q (by decide)) rfl ⟨(-1 : Int32), rfl, h300⟩
    · have h301 := h298.2 hc299
      refine wpc_sl (n := 2) (c' := 12) (pc' := 21) (ls' := [some (.ref 0), some (.int a1), none, none, none, none]) (st' := [.int a1, .ref 0]) (s' := s296) rfl ?_
      refine wpc_callI (m' := 25) (me' := cm25) (as := [.int a1]) (r := []) rfl rfl rfl rfl rfl ⟨by decide, (by first | decide | exact Nat.le_of_ble_eq_true rfl), (by first | decide | exact Nat.le_of_ble_eq_true rfl), rfl⟩ (calI.mono h301 fun v303 s302 h304 => ?_)
      refine wpc_sl (n := 2) (c' := 12) (pc' := 26) (ls' := [some (.ref 0), some (.int a1), some (.int v303), none, none, none]) (st' := [.int v303]) (s' := s302) rfl ?_
      refine wpc_if (a := 31) (b := 29) rfl (by decide) rfl rfl (wpc_br (p := v303 < (0 : Int32)) ⟨fun hc305 => ?_, fun hc305 => ?_⟩)
      · have h306 := h304.1 hc305
        refine wpc_sl (n := 1) (c' := 12) (pc' := 30) (ls' := [some (.ref 0), some (.int a1), some (.int v303), none, none, none]) (st' := [.int (-1 : Int32)]) (s' := s302) rfl ?_
        exact wpc_ret rfl rfl (fun q => absurd q (by decide)) rfl ⟨(-1 : Int32), rfl, h306⟩
      · have h307 := h304.2 hc305
        refine wpc_sl (n := 2) (c' := 12) (pc' := 33) (ls' := [some (.ref 0), some (.int a1), some (.int v303), none, none, none]) (st' := [.int a1, .ref 0]) (s' := s302) rfl ?_
        refine wpc_callI (m' := 26) (me' := cm26) (as := [.int a1]) (r := []) rfl rfl rfl rfl rfl ⟨by decide, (by first | decide | exact Nat.le_of_ble_eq_true rfl), (by first | decide | exact Nat.le_of_ble_eq_true rfl), rfl⟩ (calI.mono h307 fun v309 s308 h310 => ?_)
        refine wpc_sl (n := 5) (c' := 12) (pc' := 41) (ls' := [some (.ref 0), some (.int a1), some (.int v303), some (.int v309), none, none]) (st' := [.int v309, .int v303, .int a1, .ref 0]) (s' := s308) rfl ?_
        refine wpc_callI (m' := 29) (me' := cm29) (as := [.int a1, .int v303, .int v309]) (r := []) rfl rfl rfl rfl rfl ⟨by decide, (by first | decide | exact Nat.le_of_ble_eq_true rfl), (by first | decide | exact Nat.le_of_ble_eq_true rfl), rfl⟩ (calI.mono h310 fun v312 s311 h313 => ?_)
        refine wpc_sl (n := 4) (c' := 12) (pc' := 50) (ls' := [some (.ref 0), some (.int a1), some (.int v303), some (.int v309), some (.int v312), none]) (st' := [.int v312, .int v309, .ref 0]) (s' := s311) rfl ?_
        refine wpc_callI (m' := 28) (me' := cm28) (as := [.int v309, .int v312]) (r := []) rfl rfl rfl rfl rfl ⟨by decide, (by first | decide | exact Nat.le_of_ble_eq_true rfl), (by first | decide | exact Nat.le_of_ble_eq_true rfl), rfl⟩ (calI.mono h313 fun v315 s314 h316 => ?_)
        refine wpc_sl (n := 6) (c' := 12) (pc' := 61) (ls' := [some (.ref 0), some (.int a1), some (.int v303), some (.int v309), some (.int v312), some (.int v315)]) (st' := [.int v315, .int v309, .int v303, .int a1, .ref 0]) (s' := s314) rfl ?_
        refine wpc_callV (m' := 24) (me' := cm24) (as := [.int a1, .int v303, .int v309, .int v315]) (r := []) rfl rfl rfl rfl rfl ⟨by decide, (by first | decide | exact Nat.le_of_ble_eq_true rfl), (by first | decide | exact Nat.le_of_ble_eq_true rfl), rfl⟩ (calV.mono h316 fun s317 h319 => ?_)
        refine wpc_sl (n := 1) (c' := 12) (pc' := 66) (ls' := [some (.ref 0), some (.int a1), some (.int v303), some (.int v309), some (.int v312), some (.int v315)]) (st' := [.int v312]) (s' := s317) rfl ?_
        exact wpc_ret rfl rfl (fun q => absurd q (by decide)) rfl ⟨v312, rfl, h319⟩
theorem c12_in (a1 : Int32) (s : St) (Q : Int32 → St → Prop) (h : calI PP 19 12 [.ref 0, .int a1] s (fun v424 s423 => ((v424 = (0 : Int32)) → Q (-1 : Int32) s423) ∧ (¬ (v424 = (0 : Int32)) → inb 8 a1 ∧ Q (gI s423 3 (ix a1)) s423))) : calI PP 12 12 [.ref 0, .int a1] s Q := by
  refine cal_of (me := cm12) (ls := [some (.ref 0), some (.int a1)]) rfl (Nat.le_of_ble_eq_true rfl) rfl ?_
  refine wpc_sl (n := 2) (c' := 12) (pc' := 2) (ls' := [some (.ref 0), some (.int a1)]) (st' := [.int a1, .ref 0]) (s' := s) rfl ?_
  refine wpc_callI (m' := 19) (me' := cm19) (as := [.int a1]) (r := []) rfl rfl rfl rfl rfl ⟨by decide, (by first | decide | exact Nat.le_of_ble_eq_true rfl), (by first | decide | exact Nat.le_of_ble_eq_true rfl), rfl⟩ (calI.mono h fun v424 s423 h425 => ?_)
  refine wpc_if (a := 10) (b := 8) rfl (by decide) rfl rfl (wpc_br (p := v424 = (0 : Int32)) ⟨fun hc426 => ?_, fun hc426 => ?_⟩)
  · have h427 := h425.1 hc426
    refine wpc_sl (n := 1) (c' := 12) (pc' := 9) (ls' := [some (.ref 0), some (.int a1)]) (st' := [.int (-1 : Int32)]) (s' := s423) rfl ?_
    exact wpc_ret rfl rfl (fun q => absurd q (by decide)) rfl ⟨(-1 : Int32), rfl, h427⟩
  · have h428 := h425.2 hc426
    refine wpc_sl (n := 3) (c' := 12) (pc' := 15) (ls' := [some (.ref 0), some (.int a1)]) (st' := [.int a1, .ref 3]) (s' := s423) rfl ?_
    refine wpc_ldaI (a := 2) (N := 8) (v := (gI s423 3 (ix a1))) rfl rfl (by decide) h428.1 rfl ?_
    have h429 := h428.2
    exact wpc_ret rfl rfl (fun q => absurd q (by decide)) rfl ⟨(gI s423 3 (ix a1)), rfl, h429⟩
theorem l4W1_in (N : Nat) (sg : Nat → Int32) (a0 : Int32) (a1 : Int32) (a2 : Int32) (s : St) (Q : Int32 → Wd → Prop) (h : Q ((((((((((a0 * (31 : Int32)) + (a1 * (977 : Int32))) + (a2 * (7919 : Int32))) + (12345 : Int32)) ^^^ (XT.ushr ((((a0 * (31 : Int32)) + (a1 * (977 : Int32))) + (a2 * (7919 : Int32))) + (12345 : Int32)) (13 : Int32))) * (1540483477 : Int32)) ^^^ (XT.ushr ((((((a0 * (31 : Int32)) + (a1 * (977 : Int32))) + (a2 * (7919 : Int32))) + (12345 : Int32)) ^^^ (XT.ushr ((((a0 * (31 : Int32)) + (a1 * (977 : Int32))) + (a2 * (7919 : Int32))) + (12345 : Int32)) (13 : Int32))) * (1540483477 : Int32)) (15 : Int32))) * (668265261 : Int32)) ^^^ (XT.ushr ((((((((a0 * (31 : Int32)) + (a1 * (977 : Int32))) + (a2 * (7919 : Int32))) + (12345 : Int32)) ^^^ (XT.ushr ((((a0 * (31 : Int32)) + (a1 * (977 : Int32))) + (a2 * (7919 : Int32))) + (12345 : Int32)) (13 : Int32))) * (1540483477 : Int32)) ^^^ (XT.ushr ((((((a0 * (31 : Int32)) + (a1 * (977 : Int32))) + (a2 * (7919 : Int32))) + (12345 : Int32)) ^^^ (XT.ushr ((((a0 * (31 : Int32)) + (a1 * (977 : Int32))) + (a2 * (7919 : Int32))) + (12345 : Int32)) (13 : Int32))) * (1540483477 : Int32)) (15 : Int32))) * (668265261 : Int32)) (16 : Int32))) &&& (2147483647 : Int32)) (W1 s)) : lalI PP QQ (some (N, sg)) 4 [.int a0, .int a1, .int a2] (W1 s) Q := by
  refine lal_of (me := lm4) (ls := [some (.int a0), some (.int a1), some (.int a2), none]) rfl (Nat.le_of_ble_eq_true rfl) rfl ?_
  refine wpl_sl (n := 5) (pc' := 8) (ls' := [some (.int a0), some (.int a1), some (.int a2), none]) (st' := [.int (977 : Int32), .int a1, .int (a0 * (31 : Int32))]) rfl ?_
  refine wpl_sl (n := 5) (pc' := 15) (ls' := [some (.int a0), some (.int a1), some (.int a2), none]) (st' := [.int (a2 * (7919 : Int32)), .int ((a0 * (31 : Int32)) + (a1 * (977 : Int32)))]) rfl ?_
  refine wpl_sl (n := 5) (pc' := 22) (ls' := [some (.int a0), some (.int a1), some (.int a2), some (.int ((((a0 * (31 : Int32)) + (a1 * (977 : Int32))) + (a2 * (7919 : Int32))) + (12345 : Int32)))]) (st' := [.int ((((a0 * (31 : Int32)) + (a1 * (977 : Int32))) + (a2 * (7919 : Int32))) + (12345 : Int32))]) rfl ?_
  refine wpl_sl (n := 5) (pc' := 28) (ls' := [some (.int a0), some (.int a1), some (.int a2), some (.int (((((a0 * (31 : Int32)) + (a1 * (977 : Int32))) + (a2 * (7919 : Int32))) + (12345 : Int32)) ^^^ (XT.ushr ((((a0 * (31 : Int32)) + (a1 * (977 : Int32))) + (a2 * (7919 : Int32))) + (12345 : Int32)) (13 : Int32))))]) (st' := []) rfl ?_
  refine wpl_sl (n := 5) (pc' := 34) (ls' := [some (.int a0), some (.int a1), some (.int a2), some (.int ((((((a0 * (31 : Int32)) + (a1 * (977 : Int32))) + (a2 * (7919 : Int32))) + (12345 : Int32)) ^^^ (XT.ushr ((((a0 * (31 : Int32)) + (a1 * (977 : Int32))) + (a2 * (7919 : Int32))) + (12345 : Int32)) (13 : Int32))) * (1540483477 : Int32)))]) (st' := [.int ((((((a0 * (31 : Int32)) + (a1 * (977 : Int32))) + (a2 * (7919 : Int32))) + (12345 : Int32)) ^^^ (XT.ushr ((((a0 * (31 : Int32)) + (a1 * (977 : Int32))) + (a2 * (7919 : Int32))) + (12345 : Int32)) (13 : Int32))) * (1540483477 : Int32))]) rfl ?_
  refine wpl_sl (n := 5) (pc' := 40) (ls' := [some (.int a0), some (.int a1), some (.int a2), some (.int (((((((a0 * (31 : Int32)) + (a1 * (977 : Int32))) + (a2 * (7919 : Int32))) + (12345 : Int32)) ^^^ (XT.ushr ((((a0 * (31 : Int32)) + (a1 * (977 : Int32))) + (a2 * (7919 : Int32))) + (12345 : Int32)) (13 : Int32))) * (1540483477 : Int32)) ^^^ (XT.ushr ((((((a0 * (31 : Int32)) + (a1 * (977 : Int32))) + (a2 * (7919 : Int32))) + (12345 : Int32)) ^^^ (XT.ushr ((((a0 * (31 : Int32)) + (a1 * (977 : Int32))) + (a2 * (7919 : Int32))) + (12345 : Int32)) (13 : Int32))) * (1540483477 : Int32)) (15 : Int32))))]) (st' := []) rfl ?_
  refine wpl_sl (n := 5) (pc' := 46) (ls' := [some (.int a0), some (.int a1), some (.int a2), some (.int ((((((((a0 * (31 : Int32)) + (a1 * (977 : Int32))) + (a2 * (7919 : Int32))) + (12345 : Int32)) ^^^ (XT.ushr ((((a0 * (31 : Int32)) + (a1 * (977 : Int32))) + (a2 * (7919 : Int32))) + (12345 : Int32)) (13 : Int32))) * (1540483477 : Int32)) ^^^ (XT.ushr ((((((a0 * (31 : Int32)) + (a1 * (977 : Int32))) + (a2 * (7919 : Int32))) + (12345 : Int32)) ^^^ (XT.ushr ((((a0 * (31 : Int32)) + (a1 * (977 : Int32))) + (a2 * (7919 : Int32))) + (12345 : Int32)) (13 : Int32))) * (1540483477 : Int32)) (15 : Int32))) * (668265261 : Int32)))]) (st' := [.int ((((((((a0 * (31 : Int32)) + (a1 * (977 : Int32))) + (a2 * (7919 : Int32))) + (12345 : Int32)) ^^^ (XT.ushr ((((a0 * (31 : Int32)) + (a1 * (977 : Int32))) + (a2 * (7919 : Int32))) + (12345 : Int32)) (13 : Int32))) * (1540483477 : Int32)) ^^^ (XT.ushr ((((((a0 * (31 : Int32)) + (a1 * (977 : Int32))) + (a2 * (7919 : Int32))) + (12345 : Int32)) ^^^ (XT.ushr ((((a0 * (31 : Int32)) + (a1 * (977 : Int32))) + (a2 * (7919 : Int32))) + (12345 : Int32)) (13 : Int32))) * (1540483477 : Int32)) (15 : Int32))) * (668265261 : Int32))]) rfl ?_
  refine wpl_sl (n := 5) (pc' := 52) (ls' := [some (.int a0), some (.int a1), some (.int a2), some (.int (((((((((a0 * (31 : Int32)) + (a1 * (977 : Int32))) + (a2 * (7919 : Int32))) + (12345 : Int32)) ^^^ (XT.ushr ((((a0 * (31 : Int32)) + (a1 * (977 : Int32))) + (a2 * (7919 : Int32))) + (12345 : Int32)) (13 : Int32))) * (1540483477 : Int32)) ^^^ (XT.ushr ((((((a0 * (31 : Int32)) + (a1 * (977 : Int32))) + (a2 * (7919 : Int32))) + (12345 : Int32)) ^^^ (XT.ushr ((((a0 * (31 : Int32)) + (a1 * (977 : Int32))) + (a2 * (7919 : Int32))) + (12345 : Int32)) (13 : Int32))) * (1540483477 : Int32)) (15 : Int32))) * (668265261 : Int32)) ^^^ (XT.ushr ((((((((a0 * (31 : Int32)) + (a1 * (977 : Int32))) + (a2 * (7919 : Int32))) + (12345 : Int32)) ^^^ (XT.ushr ((((a0 * (31 : Int32)) + (a1 * (977 : Int32))) + (a2 * (7919 : Int32))) + (12345 : Int32)) (13 : Int32))) * (1540483477 : Int32)) ^^^ (XT.ushr ((((((a0 * (31 : Int32)) + (a1 * (977 : Int32))) + (a2 * (7919 : Int32))) + (12345 : Int32)) ^^^ (XT.ushr ((((a0 * (31 : Int32)) + (a1 * (977 : Int32))) + (a2 * (7919 : Int32))) + (12345 : Int32)) (13 : Int32))) * (1540483477 : Int32)) (15 : Int32))) * (668265261 : Int32)) (16 : Int32))))]) (st' := []) rfl ?_
  refine wpl_sl (n := 3) (pc' := 56) (ls' := [some (.int a0), some (.int a1), some (.int a2), some (.int (((((((((a0 * (31 : Int32)) + (a1 * (977 : Int32))) + (a2 * (7919 : Int32))) + (12345 : Int32)) ^^^ (XT.ushr ((((a0 * (31 : Int32)) + (a1 * (977 : Int32))) + (a2 * (7919 : Int32))) + (12345 : Int32)) (13 : Int32))) * (1540483477 : Int32)) ^^^ (XT.ushr ((((((a0 * (31 : Int32)) + (a1 * (977 : Int32))) + (a2 * (7919 : Int32))) + (12345 : Int32)) ^^^ (XT.ushr ((((a0 * (31 : Int32)) + (a1 * (977 : Int32))) + (a2 * (7919 : Int32))) + (12345 : Int32)) (13 : Int32))) * (1540483477 : Int32)) (15 : Int32))) * (668265261 : Int32)) ^^^ (XT.ushr ((((((((a0 * (31 : Int32)) + (a1 * (977 : Int32))) + (a2 * (7919 : Int32))) + (12345 : Int32)) ^^^ (XT.ushr ((((a0 * (31 : Int32)) + (a1 * (977 : Int32))) + (a2 * (7919 : Int32))) + (12345 : Int32)) (13 : Int32))) * (1540483477 : Int32)) ^^^ (XT.ushr ((((((a0 * (31 : Int32)) + (a1 * (977 : Int32))) + (a2 * (7919 : Int32))) + (12345 : Int32)) ^^^ (XT.ushr ((((a0 * (31 : Int32)) + (a1 * (977 : Int32))) + (a2 * (7919 : Int32))) + (12345 : Int32)) (13 : Int32))) * (1540483477 : Int32)) (15 : Int32))) * (668265261 : Int32)) (16 : Int32))))]) (st' := [.int ((((((((((a0 * (31 : Int32)) + (a1 * (977 : Int32))) + (a2 * (7919 : Int32))) + (12345 : Int32)) ^^^ (XT.ushr ((((a0 * (31 : Int32)) + (a1 * (977 : Int32))) + (a2 * (7919 : Int32))) + (12345 : Int32)) (13 : Int32))) * (1540483477 : Int32)) ^^^ (XT.ushr ((((((a0 * (31 : Int32)) + (a1 * (977 : Int32))) + (a2 * (7919 : Int32))) + (12345 : Int32)) ^^^ (XT.ushr ((((a0 * (31 : Int32)) + (a1 * (977 : Int32))) + (a2 * (7919 : Int32))) + (12345 : Int32)) (13 : Int32))) * (1540483477 : Int32)) (15 : Int32))) * (668265261 : Int32)) ^^^ (XT.ushr ((((((((a0 * (31 : Int32)) + (a1 * (977 : Int32))) + (a2 * (7919 : Int32))) + (12345 : Int32)) ^^^ (XT.ushr ((((a0 * (31 : Int32)) + (a1 * (977 : Int32))) + (a2 * (7919 : Int32))) + (12345 : Int32)) (13 : Int32))) * (1540483477 : Int32)) ^^^ (XT.ushr ((((((a0 * (31 : Int32)) + (a1 * (977 : Int32))) + (a2 * (7919 : Int32))) + (12345 : Int32)) ^^^ (XT.ushr ((((a0 * (31 : Int32)) + (a1 * (977 : Int32))) + (a2 * (7919 : Int32))) + (12345 : Int32)) (13 : Int32))) * (1540483477 : Int32)) (15 : Int32))) * (668265261 : Int32)) (16 : Int32))) &&& (2147483647 : Int32))]) rfl ?_
  exact wpl_ret rfl rfl rfl ⟨((((((((((a0 * (31 : Int32)) + (a1 * (977 : Int32))) + (a2 * (7919 : Int32))) + (12345 : Int32)) ^^^ (XT.ushr ((((a0 * (31 : Int32)) + (a1 * (977 : Int32))) + (a2 * (7919 : Int32))) + (12345 : Int32)) (13 : Int32))) * (1540483477 : Int32)) ^^^ (XT.ushr ((((((a0 * (31 : Int32)) + (a1 * (977 : Int32))) + (a2 * (7919 : Int32))) + (12345 : Int32)) ^^^ (XT.ushr ((((a0 * (31 : Int32)) + (a1 * (977 : Int32))) + (a2 * (7919 : Int32))) + (12345 : Int32)) (13 : Int32))) * (1540483477 : Int32)) (15 : Int32))) * (668265261 : Int32)) ^^^ (XT.ushr ((((((((a0 * (31 : Int32)) + (a1 * (977 : Int32))) + (a2 * (7919 : Int32))) + (12345 : Int32)) ^^^ (XT.ushr ((((a0 * (31 : Int32)) + (a1 * (977 : Int32))) + (a2 * (7919 : Int32))) + (12345 : Int32)) (13 : Int32))) * (1540483477 : Int32)) ^^^ (XT.ushr ((((((a0 * (31 : Int32)) + (a1 * (977 : Int32))) + (a2 * (7919 : Int32))) + (12345 : Int32)) ^^^ (XT.ushr ((((a0 * (31 : Int32)) + (a1 * (977 : Int32))) + (a2 * (7919 : Int32))) + (12345 : Int32)) (13 : Int32))) * (1540483477 : Int32)) (15 : Int32))) * (668265261 : Int32)) (16 : Int32))) &&& (2147483647 : Int32)), rfl, h⟩
theorem l5W1_in (N : Nat) (sg : Nat → Int32) (a0 : Int32) (a1 : Int32) (a2 : Int32) (s : St) (Q : Int32 → Wd → Prop) (h : lalI PP QQ (some (N, sg)) 4 [.int a0, .int a1, .int a2] (W1 s) (fun v431 w430 => ∃ s433, w430 = W1 s433 ∧ (Q (v431 &&& (3 : Int32)) (W1 s433)))) : lalI PP QQ (some (N, sg)) 5 [.int a0, .int a1, .int a2] (W1 s) Q := by
  refine lal_of (me := lm5) (ls := [some (.int a0), some (.int a1), some (.int a2)]) rfl (Nat.le_of_ble_eq_true rfl) rfl ?_
  refine wpl_sl (n := 3) (pc' := 3) (ls' := [some (.int a0), some (.int a1), some (.int a2)]) (st' := [.int a2, .int a1, .int a0]) rfl ?_
  refine wpl_stat (m' := 4) (me' := lm4) (as := [.int a0, .int a1, .int a2]) (r := []) rfl rfl rfl rfl rfl ⟨(by first | decide | exact Nat.le_of_ble_eq_true rfl), (by first | decide | exact Nat.le_of_ble_eq_true rfl), (by first | decide | exact Nat.le_of_ble_eq_true rfl), (by first | decide | exact Nat.le_of_ble_eq_true rfl), rfl⟩ (lal_I (lalI.mono h fun v431 w430 hh => ?_))
  obtain ⟨s433, rfl, h432⟩ := hh
  refine wpl_sl (n := 2) (pc' := 8) (ls' := [some (.int a0), some (.int a1), some (.int a2)]) (st' := [.int (v431 &&& (3 : Int32))]) rfl ?_
  exact wpl_ret rfl rfl rfl ⟨(v431 &&& (3 : Int32)), rfl, h432⟩
theorem l6W1_in (N : Nat) (sg : Nat → Int32) (a0 : Int32) (a1 : Int32) (a2 : Int32) (s : St) (Q : Int32 → Wd → Prop) (h : lalI PP QQ (some (N, sg)) 4 [.int a0, .int a1, .int a2] (W1 s) (fun v435 w434 => ∃ s437, w434 = W1 s437 ∧ (Q ((1 : Int32) + ((XT.ushr v435 (2 : Int32)) % (100 : Int32))) (W1 s437)))) : lalI PP QQ (some (N, sg)) 6 [.int a0, .int a1, .int a2] (W1 s) Q := by
  refine lal_of (me := lm6) (ls := [some (.int a0), some (.int a1), some (.int a2)]) rfl (Nat.le_of_ble_eq_true rfl) rfl ?_
  refine wpl_sl (n := 4) (pc' := 4) (ls' := [some (.int a0), some (.int a1), some (.int a2)]) (st' := [.int a2, .int a1, .int a0, .int (1 : Int32)]) rfl ?_
  refine wpl_stat (m' := 4) (me' := lm4) (as := [.int a0, .int a1, .int a2]) (r := [.int (1 : Int32)]) rfl rfl rfl rfl rfl ⟨(by first | decide | exact Nat.le_of_ble_eq_true rfl), (by first | decide | exact Nat.le_of_ble_eq_true rfl), (by first | decide | exact Nat.le_of_ble_eq_true rfl), (by first | decide | exact Nat.le_of_ble_eq_true rfl), rfl⟩ (lal_I (lalI.mono h fun v435 w434 hh => ?_))
  obtain ⟨s437, rfl, h436⟩ := hh
  refine wpl_sl (n := 5) (pc' := 13) (ls' := [some (.int a0), some (.int a1), some (.int a2)]) (st' := [.int ((1 : Int32) + ((XT.ushr v435 (2 : Int32)) % (100 : Int32)))]) rfl ?_
  exact wpl_ret rfl rfl rfl ⟨((1 : Int32) + ((XT.ushr v435 (2 : Int32)) % (100 : Int32))), rfl, h436⟩
theorem c22_in (a1 : Int32) (a2 : Int32) (a3 : Int32) (s : St) (Q : Int32 → St → Prop) (h : inb 8 a1 ∧ calI PP 21 12 [.ref 0, .int a1, .int (gI s 3 (ix a1))] s (fun v472 s471 => inb 48 v472 ∧ inb 48 v472 ∧ inb 48 v472 ∧ inb 48 v472 ∧ inb 8 a1 ∧ Q (gI s 3 (ix a1)) (sI (sI (sI (sI (sI s471 9 (ix v472) a2) 10 (ix v472) a3) 11 (ix v472) (0 : Int32)) 12 (ix v472) (0 : Int32)) 3 (ix a1) ((gI s 3 (ix a1)) + (1 : Int32))))) : calI PP 22 12 [.ref 0, .int a1, .int a2, .int a3] s Q := by
  refine cal_of (me := cm22) (ls := [some (.ref 0), some (.int a1), some (.int a2), some (.int a3), none, none]) rfl (Nat.le_of_ble_eq_true rfl) rfl ?_
  refine wpc_sl (n := 3) (c' := 12) (pc' := 5) (ls' := [some (.ref 0), some (.int a1), some (.int a2), some (.int a3), none, none]) (st' := [.int a1, .ref 3]) (s' := s) rfl ?_
  refine wpc_ldaI (a := 2) (N := 8) (v := (gI s 3 (ix a1))) rfl rfl (by decide) h.1 rfl ?_
  have h470 := h.2
  refine wpc_sl (n := 4) (c' := 12) (pc' := 12) (ls' := [some (.ref 0), some (.int a1), some (.int a2), some (.int a3), some (.int (gI s 3 (ix a1))), none]) (st' := [.int (gI s 3 (ix a1)), .int a1, .ref 0]) (s' := s) rfl ?_
  refine wpc_callI (m' := 21) (me' := cm21) (as := [.int a1, .int (gI s 3 (ix a1))]) (r := []) rfl rfl rfl rfl rfl ⟨by decide, (by first | decide | exact Nat.le_of_ble_eq_true rfl), (by first | decide | exact Nat.le_of_ble_eq_true rfl), rfl⟩ (calI.mono h470 fun v472 s471 h473 => ?_)
  refine wpc_sl (n := 5) (c' := 12) (pc' := 24) (ls' := [some (.ref 0), some (.int a1), some (.int a2), some (.int a3), some (.int (gI s 3 (ix a1))), some (.int v472)]) (st' := [.int a2, .int v472, .ref 9]) (s' := s471) rfl ?_
  refine wpc_staI (a := 8) (N := 48) (s' := (sI s471 9 (ix v472) a2)) rfl rfl (by decide) h473.1 rfl ?_
  have h474 := h473.2
  refine wpc_sl (n := 4) (c' := 12) (pc' := 32) (ls' := [some (.ref 0), some (.int a1), some (.int a2), some (.int a3), some (.int (gI s 3 (ix a1))), some (.int v472)]) (st' := [.int a3, .int v472, .ref 10]) (s' := (sI s471 9 (ix v472) a2)) rfl ?_
  refine wpc_staI (a := 9) (N := 48) (s' := (sI (sI s471 9 (ix v472) a2) 10 (ix v472) a3)) rfl rfl (by decide) h474.1 rfl ?_
  have h475 := h474.2
  refine wpc_sl (n := 4) (c' := 12) (pc' := 40) (ls' := [some (.ref 0), some (.int a1), some (.int a2), some (.int a3), some (.int (gI s 3 (ix a1))), some (.int v472)]) (st' := [.int (0 : Int32), .int v472, .ref 11]) (s' := (sI (sI s471 9 (ix v472) a2) 10 (ix v472) a3)) rfl ?_
  refine wpc_staI (a := 10) (N := 48) (s' := (sI (sI (sI s471 9 (ix v472) a2) 10 (ix v472) a3) 11 (ix v472) (0 : Int32))) rfl rfl (by decide) h475.1 rfl ?_
  have h476 := h475.2
  refine wpc_sl (n := 4) (c' := 12) (pc' := 48) (ls' := [some (.ref 0), some (.int a1), some (.int a2), some (.int a3), some (.int (gI s 3 (ix a1))), some (.int v472)]) (st' := [.int (0 : Int32), .int v472, .ref 12]) (s' := (sI (sI (sI s471 9 (ix v472) a2) 10 (ix v472) a3) 11 (ix v472) (0 : Int32))) rfl ?_
  refine wpc_staI (a := 11) (N := 48) (s' := (sI (sI (sI (sI s471 9 (ix v472) a2) 10 (ix v472) a3) 11 (ix v472) (0 : Int32)) 12 (ix v472) (0 : Int32))) rfl rfl (by decide) h476.1 rfl ?_
  have h477 := h476.2
  refine wpc_sl (n := 6) (c' := 12) (pc' := 58) (ls' := [some (.ref 0), some (.int a1), some (.int a2), some (.int a3), some (.int (gI s 3 (ix a1))), some (.int v472)]) (st' := [.int ((gI s 3 (ix a1)) + (1 : Int32)), .int a1, .ref 3]) (s' := (sI (sI (sI (sI s471 9 (ix v472) a2) 10 (ix v472) a3) 11 (ix v472) (0 : Int32)) 12 (ix v472) (0 : Int32))) rfl ?_
  refine wpc_staI (a := 2) (N := 8) (s' := (sI (sI (sI (sI (sI s471 9 (ix v472) a2) 10 (ix v472) a3) 11 (ix v472) (0 : Int32)) 12 (ix v472) (0 : Int32)) 3 (ix a1) ((gI s 3 (ix a1)) + (1 : Int32)))) rfl rfl (by decide) h477.1 rfl ?_
  have h478 := h477.2
  refine wpc_sl (n := 1) (c' := 12) (pc' := 61) (ls' := [some (.ref 0), some (.int a1), some (.int a2), some (.int a3), some (.int (gI s 3 (ix a1))), some (.int v472)]) (st' := [.int (gI s 3 (ix a1))]) (s' := (sI (sI (sI (sI (sI s471 9 (ix v472) a2) 10 (ix v472) a3) 11 (ix v472) (0 : Int32)) 12 (ix v472) (0 : Int32)) 3 (ix a1) ((gI s 3 (ix a1)) + (1 : Int32)))) rfl ?_
  exact wpc_ret rfl rfl (fun q => absurd q (by decide)) rfl ⟨(gI s 3 (ix a1)), rfl, h478⟩
theorem c3_in (a1 : Int32) (a2 : Int32) (a3 : Int32) (s : St) (Q : Int32 → St → Prop) (h : (((gI s 0 37) = (0 : Int32)) → Q (-1 : Int32) s) ∧ (¬ ((gI s 0 37) = (0 : Int32)) → calI PP 19 12 [.ref 0, .int a1] s (fun v442 s441 => ((v442 = (0 : Int32)) → Q (-1 : Int32) s441) ∧ (¬ (v442 = (0 : Int32)) → inb 8 a1 ∧ (((gI s441 2 (ix a1)) = (1 : Int32)) → ((a2 < (0 : Int32)) → Q (-1 : Int32) s441) ∧ (¬ (a2 < (0 : Int32)) → (((3 : Int32) < a2) → Q (-1 : Int32) s441) ∧ (¬ ((3 : Int32) < a2) → ((a3 < (1 : Int32)) → Q (-1 : Int32) s441) ∧ (¬ (a3 < (1 : Int32)) → (((100 : Int32) < a3) → Q (-1 : Int32) s441) ∧ (¬ ((100 : Int32) < a3) → inb 8 a1 ∧ (((gI s441 3 (ix a1)) < (6 : Int32)) → calI PP 22 12 [.ref 0, .int a1, .int a2, .int a3] s441 (fun v468 s467 => Q v468 s467)) ∧ (¬ ((gI s441 3 (ix a1)) < (6 : Int32)) → Q (-1 : Int32) s441)))))) ∧ (¬ ((gI s441 2 (ix a1)) = (1 : Int32)) → Q (-1 : Int32) s441))))) : calI PP 3 12 [.ref 0, .int a1, .int a2, .int a3] s Q := by
  refine cal_of (me := cm3) (ls := [some (.ref 0), some (.int a1), some (.int a2), some (.int a3)]) rfl (Nat.le_of_ble_eq_true rfl) rfl ?_
  refine wpc_sl (n := 2) (c' := 12) (pc' := 4) (ls' := [some (.ref 0), some (.int a1), some (.int a2), some (.int a3)]) (st' := [.int (gI s 0 37)]) (s' := s) rfl ?_
  refine wpc_if (a := 9) (b := 7) rfl (by decide) rfl rfl (wpc_br (p := (gI s 0 37) = (0 : Int32)) ⟨fun hc438 => ?_, fun hc438 => ?_⟩)
  · have h439 := h.1 hc438
    refine wpc_sl (n := 1) (c' := 12) (pc' := 8) (ls' := [some (.ref 0), some (.int a1), some (.int a2), some (.int a3)]) (st' := [.int (-1 : Int32)]) (s' := s) rfl ?_
    exact wpc_ret rfl rfl (fun q => absurd q (by decide)) rfl ⟨(-1 : Int32), rfl, h439⟩
  · have h440 := h.2 hc438
    refine wpc_sl (n := 2) (c' := 12) (pc' := 11) (ls' := [some (.ref 0), some (.int a1), some (.int a2), some (.int a3)]) (st' := [.int a1, .ref 0]) (s' := s) rfl ?_
    refine wpc_callI (m' := 19) (me' := cm19) (as := [.int a1]) (r := []) rfl rfl rfl rfl rfl ⟨by decide, (by first | decide | exact Nat.le_of_ble_eq_true rfl), (by first | decide | exact Nat.le_of_ble_eq_true rfl), rfl⟩ (calI.mono h440 fun v442 s441 h443 => ?_)
    refine wpc_if (a := 19) (b := 17) rfl (by decide) rfl rfl (wpc_br (p := v442 = (0 : Int32)) ⟨fun hc444 => ?_, fun hc444 => ?_⟩)
    · have h445 := h443.1 hc444
      refine wpc_sl (n := 1) (c' := 12) (pc' := 18) (ls' := [some (.ref 0), some (.int a1), some (.int a2), some (.int a3)]) (st' := [.int (-1 : Int32)]) (s' := s441) rfl ?_
      exact wpc_ret rfl rfl (fun q => absurd q (by decide)) rfl ⟨(-1 : Int32), rfl, h445⟩
    · have h446 := h443.2 hc444
      refine wpc_sl (n := 3) (c' := 12) (pc' := 24) (ls' := [some (.ref 0), some (.int a1), some (.int a2), some (.int a3)]) (st' := [.int a1, .ref 2]) (s' := s441) rfl ?_
      refine wpc_ldaI (a := 1) (N := 8) (v := (gI s441 2 (ix a1))) rfl rfl (by decide) h446.1 rfl ?_
      have h447 := h446.2
      refine wpc_sl (n := 1) (c' := 12) (pc' := 26) (ls' := [some (.ref 0), some (.int a1), some (.int a2), some (.int a3)]) (st' := [.int (1 : Int32), .int (gI s441 2 (ix a1))]) (s' := s441) rfl ?_
      refine wpc_icmp (a := 31) (b := 29) rfl (by decide) rfl rfl (wpc_br (p := (gI s441 2 (ix a1)) = (1 : Int32)) ⟨fun hc448 => ?_, fun hc448 => ?_⟩)
      · have h449 := h447.1 hc448
        refine wpc_sl (n := 1) (c' := 12) (pc' := 32) (ls' := [some (.ref 0), some (.int a1), some (.int a2), some (.int a3)]) (st' := [.int a2]) (s' := s441) rfl ?_
        refine wpc_if (a := 40) (b := 35) rfl (by decide) rfl rfl (wpc_br (p := a2 < (0 : Int32)) ⟨fun hc451 => ?_, fun hc451 => ?_⟩)
        · have h452 := h449.1 hc451
          refine wpc_sl (n := 1) (c' := 12) (pc' := 41) (ls' := [some (.ref 0), some (.int a1), some (.int a2), some (.int a3)]) (st' := [.int (-1 : Int32)]) (s' := s441) rfl ?_
          exact wpc_ret rfl rfl (fun q => absurd q (by decide)) rfl ⟨(-1 : Int32), rfl, h452⟩
        · have h453 := h449.2 hc451
          refine wpc_sl (n := 2) (c' := 12) (pc' := 37) (ls' := [some (.ref 0), some (.int a1), some (.int a2), some (.int a3)]) (st' := [.int (3 : Int32), .int a2]) (s' := s441) rfl ?_
          refine wpc_icmp (a := 42) (b := 40) rfl (by decide) rfl rfl (wpc_br (p := (3 : Int32) < a2) ⟨fun hc454 => ?_, fun hc454 => ?_⟩)
          · have h455 := h453.1 hc454
            refine wpc_sl (n := 1) (c' := 12) (pc' := 41) (ls' := [some (.ref 0), some (.int a1), some (.int a2), some (.int a3)]) (st' := [.int (-1 : Int32)]) (s' := s441) rfl ?_
            exact wpc_ret rfl rfl (fun q => absurd q (by decide)) rfl ⟨(-1 : Int32), rfl, h455⟩
          · have h456 := h453.2 hc454
            refine wpc_sl (n := 2) (c' := 12) (pc' := 44) (ls' := [some (.ref 0), some (.int a1), some (.int a2), some (.int a3)]) (st' := [.int (1 : Int32), .int a3]) (s' := s441) rfl ?_
            refine wpc_icmp (a := 53) (b := 47) rfl (by decide) rfl rfl (wpc_br (p := a3 < (1 : Int32)) ⟨fun hc457 => ?_, fun hc457 => ?_⟩)
            · have h458 := h456.1 hc457
              refine wpc_sl (n := 1) (c' := 12) (pc' := 54) (ls' := [some (.ref 0), some (.int a1), some (.int a2), some (.int a3)]) (st' := [.int (-1 : Int32)]) (s' := s441) rfl ?_
              exact wpc_ret rfl rfl (fun q => absurd q (by decide)) rfl ⟨(-1 : Int32), rfl, h458⟩
            · have h459 := h456.2 hc457
              refine wpc_sl (n := 2) (c' := 12) (pc' := 50) (ls' := [some (.ref 0), some (.int a1), some (.int a2), some (.int a3)]) (st' := [.int (100 : Int32), .int a3]) (s' := s441) rfl ?_
              refine wpc_icmp (a := 55) (b := 53) rfl (by decide) rfl rfl (wpc_br (p := (100 : Int32) < a3) ⟨fun hc460 => ?_, fun hc460 => ?_⟩)
              · have h461 := h459.1 hc460
                refine wpc_sl (n := 1) (c' := 12) (pc' := 54) (ls' := [some (.ref 0), some (.int a1), some (.int a2), some (.int a3)]) (st' := [.int (-1 : Int32)]) (s' := s441) rfl ?_
                exact wpc_ret rfl rfl (fun q => absurd q (by decide)) rfl ⟨(-1 : Int32), rfl, h461⟩
              · have h462 := h459.2 hc460
                refine wpc_sl (n := 3) (c' := 12) (pc' := 60) (ls' := [some (.ref 0), some (.int a1), some (.int a2), some (.int a3)]) (st' := [.int a1, .ref 3]) (s' := s441) rfl ?_
                refine wpc_ldaI (a := 2) (N := 8) (v := (gI s441 3 (ix a1))) rfl rfl (by decide) h462.1 rfl ?_
                have h463 := h462.2
                refine wpc_sl (n := 1) (c' := 12) (pc' := 63) (ls' := [some (.ref 0), some (.int a1), some (.int a2), some (.int a3)]) (st' := [.int (6 : Int32), .int (gI s441 3 (ix a1))]) (s' := s441) rfl ?_
                refine wpc_icmp (a := 68) (b := 66) rfl (by decide) rfl rfl (wpc_br (p := (gI s441 3 (ix a1)) < (6 : Int32)) ⟨fun hc464 => ?_, fun hc464 => ?_⟩)
                · have h465 := h463.1 hc464
                  refine wpc_sl (n := 4) (c' := 12) (pc' := 72) (ls' := [some (.ref 0), some (.int a1), some (.int a2), some (.int a3)]) (st' := [.int a3, .int a2, .int a1, .ref 0]) (s' := s441) rfl ?_
                  refine wpc_callI (m' := 22) (me' := cm22) (as := [.int a1, .int a2, .int a3]) (r := []) rfl rfl rfl rfl rfl ⟨by decide, (by first | decide | exact Nat.le_of_ble_eq_true rfl), (by first | decide | exact Nat.le_of_ble_eq_true rfl), rfl⟩ (calI.mono h465 fun v468 s467 h469 => ?_)
                  exact wpc_ret rfl rfl (fun q => absurd q (by decide)) rfl ⟨v468, rfl, h469⟩
                · have h466 := h463.2 hc464
                  refine wpc_sl (n := 1) (c' := 12) (pc' := 67) (ls' := [some (.ref 0), some (.int a1), some (.int a2), some (.int a3)]) (st' := [.int (-1 : Int32)]) (s' := s441) rfl ?_
                  exact wpc_ret rfl rfl (fun q => absurd q (by decide)) rfl ⟨(-1 : Int32), rfl, h466⟩
      · have h450 := h447.2 hc448
        refine wpc_sl (n := 1) (c' := 12) (pc' := 30) (ls' := [some (.ref 0), some (.int a1), some (.int a2), some (.int a3)]) (st' := [.int (-1 : Int32)]) (s' := s441) rfl ?_
        exact wpc_ret rfl rfl (fun q => absurd q (by decide)) rfl ⟨(-1 : Int32), rfl, h450⟩
theorem c4_in (a1 : Int32) (s : St) (Q : Int32 → St → Prop) (h : (((gI s 0 37) = (0 : Int32)) → Q (0 : Int32) s) ∧ (¬ ((gI s 0 37) = (0 : Int32)) → calI PP 19 12 [.ref 0, .int a1] s (fun v483 s482 => ((v483 = (0 : Int32)) → Q (0 : Int32) s482) ∧ (¬ (v483 = (0 : Int32)) → inb 8 a1 ∧ (((gI s482 2 (ix a1)) = (1 : Int32)) → inb 8 a1 ∧ (((gI s482 3 (ix a1)) = (0 : Int32)) → Q (0 : Int32) s482) ∧ (¬ ((gI s482 3 (ix a1)) = (0 : Int32)) → inb 8 a1 ∧ calI PP 21 12 [.ref 0, .int a1, .int (0 : Int32)] (sI s482 2 (ix a1) (2 : Int32)) (fun v498 s497 => inb 48 v498 ∧ inb 8 a1 ∧ Q (1 : Int32) (sI (sI s497 11 (ix v498) (1 : Int32)) 4 (ix a1) (0 : Int32))))) ∧ (¬ ((gI s482 2 (ix a1)) = (1 : Int32)) → Q (0 : Int32) s482))))) : calI PP 4 12 [.ref 0, .int a1] s Q := by
  refine cal_of (me := cm4) (ls := [some (.ref 0), some (.int a1)]) rfl (Nat.le_of_ble_eq_true rfl) rfl ?_
  refine wpc_sl (n := 2) (c' := 12) (pc' := 4) (ls' := [some (.ref 0), some (.int a1)]) (st' := [.int (gI s 0 37)]) (s' := s) rfl ?_
  refine wpc_if (a := 9) (b := 7) rfl (by decide) rfl rfl (wpc_br (p := (gI s 0 37) = (0 : Int32)) ⟨fun hc479 => ?_, fun hc479 => ?_⟩)
  · have h480 := h.1 hc479
    refine wpc_sl (n := 1) (c' := 12) (pc' := 8) (ls' := [some (.ref 0), some (.int a1)]) (st' := [.int (0 : Int32)]) (s' := s) rfl ?_
    exact wpc_ret rfl rfl (fun q => absurd q (by decide)) rfl ⟨(0 : Int32), rfl, h480⟩
  · have h481 := h.2 hc479
    refine wpc_sl (n := 2) (c' := 12) (pc' := 11) (ls' := [some (.ref 0), some (.int a1)]) (st' := [.int a1, .ref 0]) (s' := s) rfl ?_
    refine wpc_callI (m' := 19) (me' := cm19) (as := [.int a1]) (r := []) rfl rfl rfl rfl rfl ⟨by decide, (by first | decide | exact Nat.le_of_ble_eq_true rfl), (by first | decide | exact Nat.le_of_ble_eq_true rfl), rfl⟩ (calI.mono h481 fun v483 s482 h484 => ?_)
    refine wpc_if (a := 19) (b := 17) rfl (by decide) rfl rfl (wpc_br (p := v483 = (0 : Int32)) ⟨fun hc485 => ?_, fun hc485 => ?_⟩)
    · have h486 := h484.1 hc485
      refine wpc_sl (n := 1) (c' := 12) (pc' := 18) (ls' := [some (.ref 0), some (.int a1)]) (st' := [.int (0 : Int32)]) (s' := s482) rfl ?_
      exact wpc_ret rfl rfl (fun q => absurd q (by decide)) rfl ⟨(0 : Int32), rfl, h486⟩
    · have h487 := h484.2 hc485
      refine wpc_sl (n := 3) (c' := 12) (pc' := 24) (ls' := [some (.ref 0), some (.int a1)]) (st' := [.int a1, .ref 2]) (s' := s482) rfl ?_
      refine wpc_ldaI (a := 1) (N := 8) (v := (gI s482 2 (ix a1))) rfl rfl (by decide) h487.1 rfl ?_
      have h488 := h487.2
      refine wpc_sl (n := 1) (c' := 12) (pc' := 26) (ls' := [some (.ref 0), some (.int a1)]) (st' := [.int (1 : Int32), .int (gI s482 2 (ix a1))]) (s' := s482) rfl ?_
      refine wpc_icmp (a := 31) (b := 29) rfl (by decide) rfl rfl (wpc_br (p := (gI s482 2 (ix a1)) = (1 : Int32)) ⟨fun hc489 => ?_, fun hc489 => ?_⟩)
      · have h490 := h488.1 hc489
        refine wpc_sl (n := 3) (c' := 12) (pc' := 36) (ls' := [some (.ref 0), some (.int a1)]) (st' := [.int a1, .ref 3]) (s' := s482) rfl ?_
        refine wpc_ldaI (a := 2) (N := 8) (v := (gI s482 3 (ix a1))) rfl rfl (by decide) h490.1 rfl ?_
        have h492 := h490.2
        refine wpc_if (a := 42) (b := 40) rfl (by decide) rfl rfl (wpc_br (p := (gI s482 3 (ix a1)) = (0 : Int32)) ⟨fun hc493 => ?_, fun hc493 => ?_⟩)
        · have h494 := h492.1 hc493
          refine wpc_sl (n := 1) (c' := 12) (pc' := 41) (ls' := [some (.ref 0), some (.int a1)]) (st' := [.int (0 : Int32)]) (s' := s482) rfl ?_
          exact wpc_ret rfl rfl (fun q => absurd q (by decide)) rfl ⟨(0 : Int32), rfl, h494⟩
        · have h495 := h492.2 hc493
          refine wpc_sl (n := 4) (c' := 12) (pc' := 48) (ls' := [some (.ref 0), some (.int a1)]) (st' := [.int (2 : Int32), .int a1, .ref 2]) (s' := s482) rfl ?_
          refine wpc_staI (a := 1) (N := 8) (s' := (sI s482 2 (ix a1) (2 : Int32))) rfl rfl (by decide) h495.1 rfl ?_
          have h496 := h495.2
          refine wpc_sl (n := 5) (c' := 12) (pc' := 56) (ls' := [some (.ref 0), some (.int a1)]) (st' := [.int (0 : Int32), .int a1, .ref 0, .ref 11]) (s' := (sI s482 2 (ix a1) (2 : Int32))) rfl ?_
          refine wpc_callI (m' := 21) (me' := cm21) (as := [.int a1, .int (0 : Int32)]) (r := [.ref 11]) rfl rfl rfl rfl rfl ⟨by decide, (by first | decide | exact Nat.le_of_ble_eq_true rfl), (by first | decide | exact Nat.le_of_ble_eq_true rfl), rfl⟩ (calI.mono h496 fun v498 s497 h499 => ?_)
          refine wpc_sl (n := 1) (c' := 12) (pc' := 60) (ls' := [some (.ref 0), some (.int a1)]) (st' := [.int (1 : Int32), .int v498, .ref 11]) (s' := s497) rfl ?_
          refine wpc_staI (a := 10) (N := 48) (s' := (sI s497 11 (ix v498) (1 : Int32))) rfl rfl (by decide) h499.1 rfl ?_
          have h500 := h499.2
          refine wpc_sl (n := 4) (c' := 12) (pc' := 67) (ls' := [some (.ref 0), some (.int a1)]) (st' := [.int (0 : Int32), .int a1, .ref 4]) (s' := (sI s497 11 (ix v498) (1 : Int32))) rfl ?_
          refine wpc_staI (a := 3) (N := 8) (s' := (sI (sI s497 11 (ix v498) (1 : Int32)) 4 (ix a1) (0 : Int32))) rfl rfl (by decide) h500.1 rfl ?_
          have h501 := h500.2
          refine wpc_sl (n := 1) (c' := 12) (pc' := 69) (ls' := [some (.ref 0), some (.int a1)]) (st' := [.int (1 : Int32)]) (s' := (sI (sI s497 11 (ix v498) (1 : Int32)) 4 (ix a1) (0 : Int32))) rfl ?_
          exact wpc_ret rfl rfl (fun q => absurd q (by decide)) rfl ⟨(1 : Int32), rfl, h501⟩
      · have h491 := h488.2 hc489
        refine wpc_sl (n := 1) (c' := 12) (pc' := 30) (ls' := [some (.ref 0), some (.int a1)]) (st' := [.int (0 : Int32)]) (s' := s482) rfl ?_
        exact wpc_ret rfl rfl (fun q => absurd q (by decide)) rfl ⟨(0 : Int32), rfl, h491⟩
theorem c32_in (a1 : Int32) (a2 : Int32) (s : St) (Q : St → Prop) (h : calI PP 21 12 [.ref 0, .int a1, .int a2] s (fun v553 s552 => inb 48 v553 ∧ inb 8 a1 ∧ ((a2 < ((gI s552 3 (ix a1)) - (1 : Int32))) → calI PP 21 12 [.ref 0, .int a1, .int (a2 + (1 : Int32))] (sI s552 11 (ix v553) (2 : Int32)) (fun v561 s560 => inb 48 v561 ∧ inb 8 a1 ∧ Q (sI (sI s560 11 (ix v561) (1 : Int32)) 4 (ix a1) (0 : Int32)))) ∧ (¬ (a2 < ((gI s552 3 (ix a1)) - (1 : Int32))) → inb 8 a1 ∧ Q (sI (sI s552 11 (ix v553) (2 : Int32)) 2 (ix a1) (4 : Int32))))) : calV PP 32 12 [.ref 0, .int a1, .int a2] s Q := by
  refine cal_of (me := cm32) (ls := [some (.ref 0), some (.int a1), some (.int a2)]) rfl (Nat.le_of_ble_eq_true rfl) rfl ?_
  refine wpc_sl (n := 5) (c' := 12) (pc' := 7) (ls' := [some (.ref 0), some (.int a1), some (.int a2)]) (st' := [.int a2, .int a1, .ref 0, .ref 11]) (s' := s) rfl ?_
  refine wpc_callI (m' := 21) (me' := cm21) (as := [.int a1, .int a2]) (r := [.ref 11]) rfl rfl rfl rfl rfl ⟨by decide, (by first | decide | exact Nat.le_of_ble_eq_true rfl), (by first | decide | exact Nat.le_of_ble_eq_true rfl), rfl⟩ (calI.mono h fun v553 s552 h554 => ?_)
  refine wpc_sl (n := 1) (c' := 12) (pc' := 11) (ls' := [some (.ref 0), some (.int a1), some (.int a2)]) (st' := [.int (2 : Int32), .int v553, .ref 11]) (s' := s552) rfl ?_
  refine wpc_staI (a := 10) (N := 48) (s' := (sI s552 11 (ix v553) (2 : Int32))) rfl rfl (by decide) h554.1 rfl ?_
  have h555 := h554.2
  refine wpc_sl (n := 4) (c' := 12) (pc' := 18) (ls' := [some (.ref 0), some (.int a1), some (.int a2)]) (st' := [.int a1, .ref 3, .int a2]) (s' := (sI s552 11 (ix v553) (2 : Int32))) rfl ?_
  refine wpc_ldaI (a := 2) (N := 8) (v := (gI s552 3 (ix a1))) rfl rfl (by decide) h555.1 rfl ?_
  have h556 := h555.2
  refine wpc_sl (n := 2) (c' := 12) (pc' := 21) (ls' := [some (.ref 0), some (.int a1), some (.int a2)]) (st' := [.int ((gI s552 3 (ix a1)) - (1 : Int32)), .int a2]) (s' := (sI s552 11 (ix v553) (2 : Int32))) rfl ?_
  refine wpc_icmp (a := 32) (b := 24) rfl (by decide) rfl rfl (wpc_br (p := a2 < ((gI s552 3 (ix a1)) - (1 : Int32))) ⟨fun hc557 => ?_, fun hc557 => ?_⟩)
  · have h558 := h556.1 hc557
    refine wpc_sl (n := 7) (c' := 12) (pc' := 41) (ls' := [some (.ref 0), some (.int a1), some (.int a2)]) (st' := [.int (a2 + (1 : Int32)), .int a1, .ref 0, .ref 11]) (s' := (sI s552 11 (ix v553) (2 : Int32))) rfl ?_
    refine wpc_callI (m' := 21) (me' := cm21) (as := [.int a1, .int (a2 + (1 : Int32))]) (r := [.ref 11]) rfl rfl rfl rfl rfl ⟨by decide, (by first | decide | exact Nat.le_of_ble_eq_true rfl), (by first | decide | exact Nat.le_of_ble_eq_true rfl), rfl⟩ (calI.mono h558 fun v561 s560 h562 => ?_)
    refine wpc_sl (n := 1) (c' := 12) (pc' := 45) (ls' := [some (.ref 0), some (.int a1), some (.int a2)]) (st' := [.int (1 : Int32), .int v561, .ref 11]) (s' := s560) rfl ?_
    refine wpc_staI (a := 10) (N := 48) (s' := (sI s560 11 (ix v561) (1 : Int32))) rfl rfl (by decide) h562.1 rfl ?_
    have h563 := h562.2
    refine wpc_sl (n := 4) (c' := 12) (pc' := 52) (ls' := [some (.ref 0), some (.int a1), some (.int a2)]) (st' := [.int (0 : Int32), .int a1, .ref 4]) (s' := (sI s560 11 (ix v561) (1 : Int32))) rfl ?_
    refine wpc_staI (a := 3) (N := 8) (s' := (sI (sI s560 11 (ix v561) (1 : Int32)) 4 (ix a1) (0 : Int32))) rfl rfl (by decide) h563.1 rfl ?_
    have h564 := h563.2
    exact wpc_ret rfl rfl (fun q => absurd q (by decide)) rfl ⟨rfl, h564⟩
  · have h559 := h556.2 hc557
    refine wpc_sl (n := 4) (c' := 12) (pc' := 30) (ls' := [some (.ref 0), some (.int a1), some (.int a2)]) (st' := [.int (4 : Int32), .int a1, .ref 2]) (s' := (sI s552 11 (ix v553) (2 : Int32))) rfl ?_
    refine wpc_staI (a := 1) (N := 8) (s' := (sI (sI s552 11 (ix v553) (2 : Int32)) 2 (ix a1) (4 : Int32))) rfl rfl (by decide) h559.1 rfl ?_
    have h565 := h559.2
    exact wpc_ret rfl rfl (fun q => absurd q (by decide)) rfl ⟨rfl, h565⟩
theorem c36_in (a1 : Int32) (s : St) (Q : Int32 → St → Prop) (h : inb 8 a1 ∧ ∀ m587, m587 = (if (6 : Int32) < (gI s 3 (ix a1)) then (6 : Int32) else (gI s 3 (ix a1))) → (wpcI PP 36 cm36 12 20 [some (.ref 0), some (.int a1), none, some (.int (m587 - (1 : Int32)))] [] s Q)) : calI PP 36 12 [.ref 0, .int a1] s Q := by
  refine cal_of (me := cm36) (ls := [some (.ref 0), some (.int a1), none, none]) rfl (Nat.le_of_ble_eq_true rfl) rfl ?_
  refine wpc_sl (n := 3) (c' := 12) (pc' := 5) (ls' := [some (.ref 0), some (.int a1), none, none]) (st' := [.int a1, .ref 3]) (s' := s) rfl ?_
  refine wpc_ldaI (a := 2) (N := 8) (v := (gI s 3 (ix a1))) rfl rfl (by decide) h.1 rfl ?_
  have h586 := h.2
  refine wpc_sl (n := 3) (c' := 12) (pc' := 10) (ls' := [some (.ref 0), some (.int a1), some (.int (gI s 3 (ix a1))), none]) (st' := [.int (6 : Int32), .int (gI s 3 (ix a1))]) (s' := s) rfl ?_
  have hm588 : ∀ m587, m587 = (if (6 : Int32) < (gI s 3 (ix a1)) then (6 : Int32) else (gI s 3 (ix a1))) → wpcI PP 36 cm36 12 16 [some (.ref 0), some (.int a1), some (.int m587), none] [] s Q := by
    intro m587 em587
    have h589 := h586 m587 em587
    refine wpc_sl (n := 4) (c' := 12) (pc' := 20) (ls' := [some (.ref 0), some (.int a1), some (.int m587), some (.int (m587 - (1 : Int32)))]) (st' := []) (s' := s) rfl ?_
    exact wpc_lle (ls := [some (.ref 0), some (.int a1), none, some (.int (m587 - (1 : Int32)))]) ⟨rfl, rfl, rfl, trivial⟩ h589
  refine wpc_icmp (a := 16) (b := 13) rfl (by decide) rfl rfl (wpc_br (p := (6 : Int32) < (gI s 3 (ix a1))) ⟨fun hc590 => ?_, fun hc590 => ?_⟩)
  · refine wpc_sl (n := 2) (c' := 12) (pc' := 16) (ls' := [some (.ref 0), some (.int a1), some (.int (6 : Int32)), none]) (st' := []) (s' := s) rfl ?_
    first | exact hm588 _ (by simp only [if_pos hc590]) | exact wpc_lle (by repeat (first | exact trivial | refine ⟨rfl, ?_⟩)) (hm588 _ (by simp only [if_pos hc590]))
  · first | exact hm588 _ (by simp only [if_neg hc590]) | exact wpc_lle (by repeat (first | exact trivial | refine ⟨rfl, ?_⟩)) (hm588 _ (by simp only [if_neg hc590]))
theorem c36_20 (x1 : Int32) (x3 : Int32) (s : St) (Q : Int32 → St → Prop) (h : ((x3 < (0 : Int32)) → Q (-1 : Int32) s) ∧ (¬ (x3 < (0 : Int32)) → calI PP 21 12 [.ref 0, .int x1, .int x3] s (fun v595 s594 => inb 48 v595 ∧ (((gI s594 11 (ix v595)) = (2 : Int32)) → Q x3 s594) ∧ (¬ ((gI s594 11 (ix v595)) = (2 : Int32)) → wpcI PP 36 cm36 12 20 [some (.ref 0), some (.int x1), none, some (.int (x3 + (-1 : Int32)))] [] s594 Q)))) : wpcI PP 36 cm36 12 20 [some (.ref 0), some (.int x1), none, some (.int x3)] [] s Q := by
  refine wpc_sl (n := 1) (c' := 12) (pc' := 21) (ls' := [some (.ref 0), some (.int x1), none, some (.int x3)]) (st' := [.int x3]) (s' := s) rfl ?_
  refine wpc_if (a := 47) (b := 24) rfl (by decide) rfl rfl (wpc_br (p := x3 < (0 : Int32)) ⟨fun hc591 => ?_, fun hc591 => ?_⟩)
  · have h592 := h.1 hc591
    refine wpc_sl (n := 1) (c' := 12) (pc' := 48) (ls' := [some (.ref 0), some (.int x1), none, some (.int x3)]) (st' := [.int (-1 : Int32)]) (s' := s) rfl ?_
    exact wpc_ret rfl rfl (fun q => absurd q (by decide)) rfl ⟨(-1 : Int32), rfl, h592⟩
  · have h593 := h.2 hc591
    refine wpc_sl (n := 5) (c' := 12) (pc' := 31) (ls' := [some (.ref 0), some (.int x1), none, some (.int x3)]) (st' := [.int x3, .int x1, .ref 0, .ref 11]) (s' := s) rfl ?_
    refine wpc_callI (m' := 21) (me' := cm21) (as := [.int x1, .int x3]) (r := [.ref 11]) rfl rfl rfl rfl rfl ⟨by decide, (by first | decide | exact Nat.le_of_ble_eq_true rfl), (by first | decide | exact Nat.le_of_ble_eq_true rfl), rfl⟩ (calI.mono h593 fun v595 s594 h596 => ?_)
    refine wpc_ldaI (a := 10) (N := 48) (v := (gI s594 11 (ix v595))) rfl rfl (by decide) h596.1 rfl ?_
    have h597 := h596.2
    refine wpc_sl (n := 1) (c' := 12) (pc' := 36) (ls' := [some (.ref 0), some (.int x1), none, some (.int x3)]) (st' := [.int (2 : Int32), .int (gI s594 11 (ix v595))]) (s' := s594) rfl ?_
    refine wpc_icmp (a := 41) (b := 39) rfl (by decide) rfl rfl (wpc_br (p := (gI s594 11 (ix v595)) = (2 : Int32)) ⟨fun hc598 => ?_, fun hc598 => ?_⟩)
    · have h599 := h597.1 hc598
      refine wpc_sl (n := 1) (c' := 12) (pc' := 40) (ls' := [some (.ref 0), some (.int x1), none, some (.int x3)]) (st' := [.int x3]) (s' := s594) rfl ?_
      exact wpc_ret rfl rfl (fun q => absurd q (by decide)) rfl ⟨x3, rfl, h599⟩
    · have h600 := h597.2 hc598
      refine wpc_sl (n := 2) (c' := 12) (pc' := 20) (ls' := [some (.ref 0), some (.int x1), none, some (.int (x3 + (-1 : Int32)))]) (st' := []) (s' := s594) rfl ?_
      exact h600
theorem c37_in (a1 : Int32) (s : St) (Q : St → Prop) (h : inb 8 a1 ∧ calI PP 36 12 [.ref 0, .int a1] (sI s 2 (ix a1) (3 : Int32)) (fun v575 s574 => ((v575 < (0 : Int32)) → inb 8 a1 ∧ Q (sI s574 2 (ix a1) (5 : Int32))) ∧ (¬ (v575 < (0 : Int32)) → calI PP 21 12 [.ref 0, .int a1, .int v575] s574 (fun v582 s581 => inb 48 v582 ∧ inb 8 a1 ∧ Q (sI (sI s581 11 (ix v582) (4 : Int32)) 4 (ix a1) (0 : Int32)))))) : calV PP 37 12 [.ref 0, .int a1] s Q := by
  refine cal_of (me := cm37) (ls := [some (.ref 0), some (.int a1), none]) rfl (Nat.le_of_ble_eq_true rfl) rfl ?_
  refine wpc_sl (n := 4) (c' := 12) (pc' := 6) (ls' := [some (.ref 0), some (.int a1), none]) (st' := [.int (3 : Int32), .int a1, .ref 2]) (s' := s) rfl ?_
  refine wpc_staI (a := 1) (N := 8) (s' := (sI s 2 (ix a1) (3 : Int32))) rfl rfl (by decide) h.1 rfl ?_
  have h573 := h.2
  refine wpc_sl (n := 2) (c' := 12) (pc' := 9) (ls' := [some (.ref 0), some (.int a1), none]) (st' := [.int a1, .ref 0]) (s' := (sI s 2 (ix a1) (3 : Int32))) rfl ?_
  refine wpc_callI (m' := 36) (me' := cm36) (as := [.int a1]) (r := []) rfl rfl rfl rfl rfl ⟨by decide, (by first | decide | exact Nat.le_of_ble_eq_true rfl), (by first | decide | exact Nat.le_of_ble_eq_true rfl), rfl⟩ (calI.mono h573 fun v575 s574 h576 => ?_)
  refine wpc_sl (n := 2) (c' := 12) (pc' := 14) (ls' := [some (.ref 0), some (.int a1), some (.int v575)]) (st' := [.int v575]) (s' := s574) rfl ?_
  refine wpc_if (a := 25) (b := 17) rfl (by decide) rfl rfl (wpc_br (p := v575 < (0 : Int32)) ⟨fun hc577 => ?_, fun hc577 => ?_⟩)
  · have h578 := h576.1 hc577
    refine wpc_sl (n := 4) (c' := 12) (pc' := 23) (ls' := [some (.ref 0), some (.int a1), some (.int v575)]) (st' := [.int (5 : Int32), .int a1, .ref 2]) (s' := s574) rfl ?_
    refine wpc_staI (a := 1) (N := 8) (s' := (sI s574 2 (ix a1) (5 : Int32))) rfl rfl (by decide) h578.1 rfl ?_
    have h580 := h578.2
    exact wpc_ret rfl rfl (fun q => absurd q (by decide)) rfl ⟨rfl, h580⟩
  · have h579 := h576.2 hc577
    refine wpc_sl (n := 5) (c' := 12) (pc' := 32) (ls' := [some (.ref 0), some (.int a1), some (.int v575)]) (st' := [.int v575, .int a1, .ref 0, .ref 11]) (s' := s574) rfl ?_
    refine wpc_callI (m' := 21) (me' := cm21) (as := [.int a1, .int v575]) (r := [.ref 11]) rfl rfl rfl rfl rfl ⟨by decide, (by first | decide | exact Nat.le_of_ble_eq_true rfl), (by first | decide | exact Nat.le_of_ble_eq_true rfl), rfl⟩ (calI.mono h579 fun v582 s581 h583 => ?_)
    refine wpc_sl (n := 1) (c' := 12) (pc' := 36) (ls' := [some (.ref 0), some (.int a1), some (.int v575)]) (st' := [.int (4 : Int32), .int v582, .ref 11]) (s' := s581) rfl ?_
    refine wpc_staI (a := 10) (N := 48) (s' := (sI s581 11 (ix v582) (4 : Int32))) rfl rfl (by decide) h583.1 rfl ?_
    have h584 := h583.2
    refine wpc_sl (n := 4) (c' := 12) (pc' := 43) (ls' := [some (.ref 0), some (.int a1), some (.int v575)]) (st' := [.int (0 : Int32), .int a1, .ref 4]) (s' := (sI s581 11 (ix v582) (4 : Int32))) rfl ?_
    refine wpc_staI (a := 3) (N := 8) (s' := (sI (sI s581 11 (ix v582) (4 : Int32)) 4 (ix a1) (0 : Int32))) rfl rfl (by decide) h584.1 rfl ?_
    have h585 := h584.2
    exact wpc_ret rfl rfl (fun q => absurd q (by decide)) rfl ⟨rfl, h585⟩
theorem c33_in (a1 : Int32) (a2 : Int32) (s : St) (Q : St → Prop) (h : calI PP 21 12 [.ref 0, .int a1, .int a2] s (fun v567 s566 => inb 48 v567 ∧ calV PP 37 12 [.ref 0, .int a1] (sI s566 11 (ix v567) (3 : Int32)) (fun s570 => Q s570))) : calV PP 33 12 [.ref 0, .int a1, .int a2] s Q := by
  refine cal_of (me := cm33) (ls := [some (.ref 0), some (.int a1), some (.int a2)]) rfl (Nat.le_of_ble_eq_true rfl) rfl ?_
  refine wpc_sl (n := 5) (c' := 12) (pc' := 7) (ls' := [some (.ref 0), some (.int a1), some (.int a2)]) (st' := [.int a2, .int a1, .ref 0, .ref 11]) (s' := s) rfl ?_
  refine wpc_callI (m' := 21) (me' := cm21) (as := [.int a1, .int a2]) (r := [.ref 11]) rfl rfl rfl rfl rfl ⟨by decide, (by first | decide | exact Nat.le_of_ble_eq_true rfl), (by first | decide | exact Nat.le_of_ble_eq_true rfl), rfl⟩ (calI.mono h fun v567 s566 h568 => ?_)
  refine wpc_sl (n := 1) (c' := 12) (pc' := 11) (ls' := [some (.ref 0), some (.int a1), some (.int a2)]) (st' := [.int (3 : Int32), .int v567, .ref 11]) (s' := s566) rfl ?_
  refine wpc_staI (a := 10) (N := 48) (s' := (sI s566 11 (ix v567) (3 : Int32))) rfl rfl (by decide) h568.1 rfl ?_
  have h569 := h568.2
  refine wpc_sl (n := 2) (c' := 12) (pc' := 14) (ls' := [some (.ref 0), some (.int a1), some (.int a2)]) (st' := [.int a1, .ref 0]) (s' := (sI s566 11 (ix v567) (3 : Int32))) rfl ?_
  refine wpc_callV (m' := 37) (me' := cm37) (as := [.int a1]) (r := []) rfl rfl rfl rfl rfl ⟨by decide, (by first | decide | exact Nat.le_of_ble_eq_true rfl), (by first | decide | exact Nat.le_of_ble_eq_true rfl), rfl⟩ (calV.mono h569 fun s570 h572 => ?_)
  exact wpc_ret rfl rfl (fun q => absurd q (by decide)) rfl ⟨rfl, h572⟩
theorem c34_in (a1 : Int32) (a2 : Int32) (s : St) (Q : St → Prop) (h : calI PP 21 12 [.ref 0, .int a1, .int a2] s (fun v602 s601 => inb 48 v602 ∧ calV PP 37 12 [.ref 0, .int a1] (sI s601 11 (ix v602) (5 : Int32)) (fun s605 => Q s605))) : calV PP 34 12 [.ref 0, .int a1, .int a2] s Q := by
  refine cal_of (me := cm34) (ls := [some (.ref 0), some (.int a1), some (.int a2)]) rfl (Nat.le_of_ble_eq_true rfl) rfl ?_
  refine wpc_sl (n := 5) (c' := 12) (pc' := 7) (ls' := [some (.ref 0), some (.int a1), some (.int a2)]) (st' := [.int a2, .int a1, .ref 0, .ref 11]) (s' := s) rfl ?_
  refine wpc_callI (m' := 21) (me' := cm21) (as := [.int a1, .int a2]) (r := [.ref 11]) rfl rfl rfl rfl rfl ⟨by decide, (by first | decide | exact Nat.le_of_ble_eq_true rfl), (by first | decide | exact Nat.le_of_ble_eq_true rfl), rfl⟩ (calI.mono h fun v602 s601 h603 => ?_)
  refine wpc_sl (n := 1) (c' := 12) (pc' := 11) (ls' := [some (.ref 0), some (.int a1), some (.int a2)]) (st' := [.int (5 : Int32), .int v602, .ref 11]) (s' := s601) rfl ?_
  refine wpc_staI (a := 10) (N := 48) (s' := (sI s601 11 (ix v602) (5 : Int32))) rfl rfl (by decide) h603.1 rfl ?_
  have h604 := h603.2
  refine wpc_sl (n := 2) (c' := 12) (pc' := 14) (ls' := [some (.ref 0), some (.int a1), some (.int a2)]) (st' := [.int a1, .ref 0]) (s' := (sI s601 11 (ix v602) (5 : Int32))) rfl ?_
  refine wpc_callV (m' := 37) (me' := cm37) (as := [.int a1]) (r := []) rfl rfl rfl rfl rfl ⟨by decide, (by first | decide | exact Nat.le_of_ble_eq_true rfl), (by first | decide | exact Nat.le_of_ble_eq_true rfl), rfl⟩ (calV.mono h604 fun s605 h607 => ?_)
  exact wpc_ret rfl rfl (fun q => absurd q (by decide)) rfl ⟨rfl, h607⟩
theorem c7_in (a1 : Int32) (s : St) (Q : Int32 → St → Prop) (h : (((gI s 0 37) = (0 : Int32)) → Q (-1 : Int32) s) ∧ (¬ ((gI s 0 37) = (0 : Int32)) → calI PP 19 12 [.ref 0, .int a1] s (fun v506 s505 => ((v506 = (0 : Int32)) → Q (-1 : Int32) s505) ∧ (¬ (v506 = (0 : Int32)) → inb 8 a1 ∧ (((gI s505 5 (ix a1)) = (0 : Int32)) → Q (-1 : Int32) s505) ∧ (¬ ((gI s505 5 (ix a1)) = (0 : Int32)) → inb 8 a1 ∧ calI PP 25 12 [.ref 0, .int a1] (sI s505 5 (ix a1) (0 : Int32)) (fun v517 s516 => ((v517 < (0 : Int32)) → Q (0 : Int32) s516) ∧ (¬ (v517 < (0 : Int32)) → calI PP 26 12 [.ref 0, .int a1] s516 (fun v523 s522 => inb 8 a1 ∧ (((gI s522 6 (ix a1)) = v517) → inb 8 a1 ∧ (((gI s522 7 (ix a1)) = v523) → ((v523 = (1 : Int32)) → inb 8 a1 ∧ (((gI s522 8 (ix a1)) = (0 : Int32)) → calV PP 32 12 [.ref 0, .int a1, .int v517] s522 (fun s540 => inb 8 a1 ∧ Q (gI s540 2 (ix a1)) s540)) ∧ (¬ ((gI s522 8 (ix a1)) = (0 : Int32)) → calV PP 33 12 [.ref 0, .int a1, .int v517] s522 (fun s544 => inb 8 a1 ∧ Q (gI s544 2 (ix a1)) s544))) ∧ (¬ (v523 = (1 : Int32)) → calV PP 34 12 [.ref 0, .int a1, .int v517] s522 (fun s548 => inb 8 a1 ∧ Q (gI s548 2 (ix a1)) s548))) ∧ (¬ ((gI s522 7 (ix a1)) = v523) → Q (0 : Int32) s522)) ∧ (¬ ((gI s522 6 (ix a1)) = v517) → Q (0 : Int32) s522))))))))) : calI PP 7 12 [.ref 0, .int a1] s Q := by
  refine cal_of (me := cm7) (ls := [some (.ref 0), some (.int a1), none, none]) rfl (Nat.le_of_ble_eq_true rfl) rfl ?_
  refine wpc_sl (n := 2) (c' := 12) (pc' := 4) (ls' := [some (.ref 0), some (.int a1), none, none]) (st' := [.int (gI s 0 37)]) (s' := s) rfl ?_
  refine wpc_if (a := 9) (b := 7) rfl (by decide) rfl rfl (wpc_br (p := (gI s 0 37) = (0 : Int32)) ⟨fun hc502 => ?_, fun hc502 => ?_⟩)
  · have h503 := h.1 hc502
    refine wpc_sl (n := 1) (c' := 12) (pc' := 8) (ls' := [some (.ref 0), some (.int a1), none, none]) (st' := [.int (-1 : Int32)]) (s' := s) rfl ?_
    exact wpc_ret rfl rfl (fun q => absurd q (by decide)) rfl ⟨(-1 : Int32), rfl, h503⟩
  · have h504 := h.2 hc502
    refine wpc_sl (n := 2) (c' := 12) (pc' := 11) (ls' := [some (.ref 0), some (.int a1), none, none]) (st' := [.int a1, .ref 0]) (s' := s) rfl ?_
    refine wpc_callI (m' := 19) (me' := cm19) (as := [.int a1]) (r := []) rfl rfl rfl rfl rfl ⟨by decide, (by first | decide | exact Nat.le_of_ble_eq_true rfl), (by first | decide | exact Nat.le_of_ble_eq_true rfl), rfl⟩ (calI.mono h504 fun v506 s505 h507 => ?_)
    refine wpc_if (a := 19) (b := 17) rfl (by decide) rfl rfl (wpc_br (p := v506 = (0 : Int32)) ⟨fun hc508 => ?_, fun hc508 => ?_⟩)
    · have h509 := h507.1 hc508
      refine wpc_sl (n := 1) (c' := 12) (pc' := 18) (ls' := [some (.ref 0), some (.int a1), none, none]) (st' := [.int (-1 : Int32)]) (s' := s505) rfl ?_
      exact wpc_ret rfl rfl (fun q => absurd q (by decide)) rfl ⟨(-1 : Int32), rfl, h509⟩
    · have h510 := h507.2 hc508
      refine wpc_sl (n := 3) (c' := 12) (pc' := 24) (ls' := [some (.ref 0), some (.int a1), none, none]) (st' := [.int a1, .ref 5]) (s' := s505) rfl ?_
      refine wpc_ldaZ (a := 4) (N := 8) (v := (gI s505 5 (ix a1))) rfl rfl (by decide) h510.1 rfl ?_
      have h511 := h510.2
      refine wpc_if (a := 30) (b := 28) rfl (by decide) rfl rfl (wpc_br (p := (gI s505 5 (ix a1)) = (0 : Int32)) ⟨fun hc512 => ?_, fun hc512 => ?_⟩)
      · have h513 := h511.1 hc512
        refine wpc_sl (n := 1) (c' := 12) (pc' := 29) (ls' := [some (.ref 0), some (.int a1), none, none]) (st' := [.int (-1 : Int32)]) (s' := s505) rfl ?_
        exact wpc_ret rfl rfl (fun q => absurd q (by decide)) rfl ⟨(-1 : Int32), rfl, h513⟩
      · have h514 := h511.2 hc512
        refine wpc_sl (n := 4) (c' := 12) (pc' := 36) (ls' := [some (.ref 0), some (.int a1), none, none]) (st' := [.int (0 : Int32), .int a1, .ref 5]) (s' := s505) rfl ?_
        refine wpc_staZ (a := 4) (N := 8) (s' := (sI s505 5 (ix a1) (0 : Int32))) rfl rfl (by decide) h514.1 rfl ?_
        have h515 := h514.2
        refine wpc_sl (n := 2) (c' := 12) (pc' := 39) (ls' := [some (.ref 0), some (.int a1), none, none]) (st' := [.int a1, .ref 0]) (s' := (sI s505 5 (ix a1) (0 : Int32))) rfl ?_
        refine wpc_callI (m' := 25) (me' := cm25) (as := [.int a1]) (r := []) rfl rfl rfl rfl rfl ⟨by decide, (by first | decide | exact Nat.le_of_ble_eq_true rfl), (by first | decide | exact Nat.le_of_ble_eq_true rfl), rfl⟩ (calI.mono h515 fun v517 s516 h518 => ?_)
        refine wpc_sl (n := 2) (c' := 12) (pc' := 44) (ls' := [some (.ref 0), some (.int a1), some (.int v517), none]) (st' := [.int v517]) (s' := s516) rfl ?_
        refine wpc_if (a := 49) (b := 47) rfl (by decide) rfl rfl (wpc_br (p := v517 < (0 : Int32)) ⟨fun hc519 => ?_, fun hc519 => ?_⟩)
        · have h520 := h518.1 hc519
          refine wpc_sl (n := 1) (c' := 12) (pc' := 48) (ls' := [some (.ref 0), some (.int a1), some (.int v517), none]) (st' := [.int (0 : Int32)]) (s' := s516) rfl ?_
          exact wpc_ret rfl rfl (fun q => absurd q (by decide)) rfl ⟨(0 : Int32), rfl, h520⟩
        · have h521 := h518.2 hc519
          refine wpc_sl (n := 2) (c' := 12) (pc' := 51) (ls' := [some (.ref 0), some (.int a1), some (.int v517), none]) (st' := [.int a1, .ref 0]) (s' := s516) rfl ?_
          refine wpc_callI (m' := 26) (me' := cm26) (as := [.int a1]) (r := []) rfl rfl rfl rfl rfl ⟨by decide, (by first | decide | exact Nat.le_of_ble_eq_true rfl), (by first | decide | exact Nat.le_of_ble_eq_true rfl), rfl⟩ (calI.mono h521 fun v523 s522 h524 => ?_)
          refine wpc_sl (n := 4) (c' := 12) (pc' := 60) (ls' := [some (.ref 0), some (.int a1), some (.int v517), some (.int v523)]) (st' := [.int a1, .ref 6]) (s' := s522) rfl ?_
          refine wpc_ldaI (a := 5) (N := 8) (v := (gI s522 6 (ix a1))) rfl rfl (by decide) h524.1 rfl ?_
          have h525 := h524.2
          refine wpc_sl (n := 1) (c' := 12) (pc' := 62) (ls' := [some (.ref 0), some (.int a1), some (.int v517), some (.int v523)]) (st' := [.int v517, .int (gI s522 6 (ix a1))]) (s' := s522) rfl ?_
          refine wpc_icmp (a := 75) (b := 65) rfl (by decide) rfl rfl (wpc_br (p := (gI s522 6 (ix a1)) = v517) ⟨fun hc526 => ?_, fun hc526 => ?_⟩)
          · have h527 := h525.1 hc526
            refine wpc_sl (n := 3) (c' := 12) (pc' := 70) (ls' := [some (.ref 0), some (.int a1), some (.int v517), some (.int v523)]) (st' := [.int a1, .ref 7]) (s' := s522) rfl ?_
            refine wpc_ldaI (a := 6) (N := 8) (v := (gI s522 7 (ix a1))) rfl rfl (by decide) h527.1 rfl ?_
            have h529 := h527.2
            refine wpc_sl (n := 1) (c' := 12) (pc' := 72) (ls' := [some (.ref 0), some (.int a1), some (.int v517), some (.int v523)]) (st' := [.int v523, .int (gI s522 7 (ix a1))]) (s' := s522) rfl ?_
            refine wpc_icmp (a := 77) (b := 75) rfl (by decide) rfl rfl (wpc_br (p := (gI s522 7 (ix a1)) = v523) ⟨fun hc530 => ?_, fun hc530 => ?_⟩)
            · have h531 := h529.1 hc530
              refine wpc_sl (n := 2) (c' := 12) (pc' := 79) (ls' := [some (.ref 0), some (.int a1), some (.int v517), some (.int v523)]) (st' := [.int (1 : Int32), .int v523]) (s' := s522) rfl ?_
              refine wpc_icmp (a := 109) (b := 82) rfl (by decide) rfl rfl (wpc_br (p := v523 = (1 : Int32)) ⟨fun hc533 => ?_, fun hc533 => ?_⟩)
              · have h534 := h531.1 hc533
                refine wpc_sl (n := 3) (c' := 12) (pc' := 87) (ls' := [some (.ref 0), some (.int a1), some (.int v517), some (.int v523)]) (st' := [.int a1, .ref 8]) (s' := s522) rfl ?_
                refine wpc_ldaI (a := 7) (N := 8) (v := (gI s522 8 (ix a1))) rfl rfl (by decide) h534.1 rfl ?_
                have h536 := h534.2
                refine wpc_if (a := 100) (b := 91) rfl (by decide) rfl rfl (wpc_br (p := (gI s522 8 (ix a1)) = (0 : Int32)) ⟨fun hc537 => ?_, fun hc537 => ?_⟩)
                · have h538 := h536.1 hc537
                  refine wpc_sl (n := 3) (c' := 12) (pc' := 94) (ls' := [some (.ref 0), some (.int a1), some (.int v517), some (.int v523)]) (st' := [.int v517, .int a1, .ref 0]) (s' := s522) rfl ?_
                  refine wpc_callV (m' := 32) (me' := cm32) (as := [.int a1, .int v517]) (r := []) rfl rfl rfl rfl rfl ⟨by decide, (by first | decide | exact Nat.le_of_ble_eq_true rfl), (by first | decide | exact Nat.le_of_ble_eq_true rfl), rfl⟩ (calV.mono h538 fun s540 h542 => ?_)
                  refine wpc_sl (n := 4) (c' := 12) (pc' := 120) (ls' := [some (.ref 0), some (.int a1), some (.int v517), some (.int v523)]) (st' := [.int a1, .ref 2]) (s' := s540) rfl ?_
                  refine wpc_ldaI (a := 1) (N := 8) (v := (gI s540 2 (ix a1))) rfl rfl (by decide) h542.1 rfl ?_
                  have h543 := h542.2
                  exact wpc_ret rfl rfl (fun q => absurd q (by decide)) rfl ⟨(gI s540 2 (ix a1)), rfl, h543⟩
                · have h539 := h536.2 hc537
                  refine wpc_sl (n := 3) (c' := 12) (pc' := 103) (ls' := [some (.ref 0), some (.int a1), some (.int v517), some (.int v523)]) (st' := [.int v517, .int a1, .ref 0]) (s' := s522) rfl ?_
                  refine wpc_callV (m' := 33) (me' := cm33) (as := [.int a1, .int v517]) (r := []) rfl rfl rfl rfl rfl ⟨by decide, (by first | decide | exact Nat.le_of_ble_eq_true rfl), (by first | decide | exact Nat.le_of_ble_eq_true rfl), rfl⟩ (calV.mono h539 fun s544 h546 => ?_)
                  refine wpc_sl (n := 4) (c' := 12) (pc' := 120) (ls' := [some (.ref 0), some (.int a1), some (.int v517), some (.int v523)]) (st' := [.int a1, .ref 2]) (s' := s544) rfl ?_
                  refine wpc_ldaI (a := 1) (N := 8) (v := (gI s544 2 (ix a1))) rfl rfl (by decide) h546.1 rfl ?_
                  have h547 := h546.2
                  exact wpc_ret rfl rfl (fun q => absurd q (by decide)) rfl ⟨(gI s544 2 (ix a1)), rfl, h547⟩
              · have h535 := h531.2 hc533
                refine wpc_sl (n := 3) (c' := 12) (pc' := 112) (ls' := [some (.ref 0), some (.int a1), some (.int v517), some (.int v523)]) (st' := [.int v517, .int a1, .ref 0]) (s' := s522) rfl ?_
                refine wpc_callV (m' := 34) (me' := cm34) (as := [.int a1, .int v517]) (r := []) rfl rfl rfl rfl rfl ⟨by decide, (by first | decide | exact Nat.le_of_ble_eq_true rfl), (by first | decide | exact Nat.le_of_ble_eq_true rfl), rfl⟩ (calV.mono h535 fun s548 h550 => ?_)
                refine wpc_sl (n := 3) (c' := 12) (pc' := 120) (ls' := [some (.ref 0), some (.int a1), some (.int v517), some (.int v523)]) (st' := [.int a1, .ref 2]) (s' := s548) rfl ?_
                refine wpc_ldaI (a := 1) (N := 8) (v := (gI s548 2 (ix a1))) rfl rfl (by decide) h550.1 rfl ?_
                have h551 := h550.2
                exact wpc_ret rfl rfl (fun q => absurd q (by decide)) rfl ⟨(gI s548 2 (ix a1)), rfl, h551⟩
            · have h532 := h529.2 hc530
              refine wpc_sl (n := 1) (c' := 12) (pc' := 76) (ls' := [some (.ref 0), some (.int a1), some (.int v517), some (.int v523)]) (st' := [.int (0 : Int32)]) (s' := s522) rfl ?_
              exact wpc_ret rfl rfl (fun q => absurd q (by decide)) rfl ⟨(0 : Int32), rfl, h532⟩
          · have h528 := h525.2 hc526
            refine wpc_sl (n := 1) (c' := 12) (pc' := 76) (ls' := [some (.ref 0), some (.int a1), some (.int v517), some (.int v523)]) (st' := [.int (0 : Int32)]) (s' := s522) rfl ?_
            exact wpc_ret rfl rfl (fun q => absurd q (by decide)) rfl ⟨(0 : Int32), rfl, h528⟩
theorem c35_in (a1 : Int32) (a2 : Int32) (s : St) (Q : St → Prop) (h : calI PP 21 12 [.ref 0, .int a1, .int a2] s (fun v641 s640 => inb 48 v641 ∧ inb 8 a1 ∧ inb 8 a1 ∧ Q (sI (sI (sI s640 11 (ix v641) (4 : Int32)) 2 (ix a1) (3 : Int32)) 4 (ix a1) (0 : Int32)))) : calV PP 35 12 [.ref 0, .int a1, .int a2] s Q := by
  refine cal_of (me := cm35) (ls := [some (.ref 0), some (.int a1), some (.int a2)]) rfl (Nat.le_of_ble_eq_true rfl) rfl ?_
  refine wpc_sl (n := 5) (c' := 12) (pc' := 7) (ls' := [some (.ref 0), some (.int a1), some (.int a2)]) (st' := [.int a2, .int a1, .ref 0, .ref 11]) (s' := s) rfl ?_
  refine wpc_callI (m' := 21) (me' := cm21) (as := [.int a1, .int a2]) (r := [.ref 11]) rfl rfl rfl rfl rfl ⟨by decide, (by first | decide | exact Nat.le_of_ble_eq_true rfl), (by first | decide | exact Nat.le_of_ble_eq_true rfl), rfl⟩ (calI.mono h fun v641 s640 h642 => ?_)
  refine wpc_sl (n := 1) (c' := 12) (pc' := 11) (ls' := [some (.ref 0), some (.int a1), some (.int a2)]) (st' := [.int (4 : Int32), .int v641, .ref 11]) (s' := s640) rfl ?_
  refine wpc_staI (a := 10) (N := 48) (s' := (sI s640 11 (ix v641) (4 : Int32))) rfl rfl (by decide) h642.1 rfl ?_
  have h643 := h642.2
  refine wpc_sl (n := 4) (c' := 12) (pc' := 18) (ls' := [some (.ref 0), some (.int a1), some (.int a2)]) (st' := [.int (3 : Int32), .int a1, .ref 2]) (s' := (sI s640 11 (ix v641) (4 : Int32))) rfl ?_
  refine wpc_staI (a := 1) (N := 8) (s' := (sI (sI s640 11 (ix v641) (4 : Int32)) 2 (ix a1) (3 : Int32))) rfl rfl (by decide) h643.1 rfl ?_
  have h644 := h643.2
  refine wpc_sl (n := 4) (c' := 12) (pc' := 25) (ls' := [some (.ref 0), some (.int a1), some (.int a2)]) (st' := [.int (0 : Int32), .int a1, .ref 4]) (s' := (sI (sI s640 11 (ix v641) (4 : Int32)) 2 (ix a1) (3 : Int32))) rfl ?_
  refine wpc_staI (a := 3) (N := 8) (s' := (sI (sI (sI s640 11 (ix v641) (4 : Int32)) 2 (ix a1) (3 : Int32)) 4 (ix a1) (0 : Int32))) rfl rfl (by decide) h644.1 rfl ?_
  have h645 := h644.2
  exact wpc_ret rfl rfl (fun q => absurd q (by decide)) rfl ⟨rfl, h645⟩
theorem c8_in (a1 : Int32) (s : St) (Q : Int32 → St → Prop) (h : (((gI s 0 37) = (0 : Int32)) → Q (-1 : Int32) s) ∧ (¬ ((gI s 0 37) = (0 : Int32)) → calI PP 19 12 [.ref 0, .int a1] s (fun v612 s611 => ((v612 = (0 : Int32)) → Q (-1 : Int32) s611) ∧ (¬ (v612 = (0 : Int32)) → calI PP 25 12 [.ref 0, .int a1] s611 (fun v618 s617 => ((v618 < (0 : Int32)) → Q (-1 : Int32) s617) ∧ (¬ (v618 < (0 : Int32)) → calI PP 26 12 [.ref 0, .int a1] s617 (fun v624 s623 => ((v624 = (2 : Int32)) → inb 8 a1 ∧ inb 8 a1 ∧ Q (1 : Int32) (sI s623 4 (ix a1) ((gI s623 4 (ix a1)) + (1 : Int32)))) ∧ (¬ (v624 = (2 : Int32)) → inb 8 a1 ∧ (((gI s623 4 (ix a1)) < (gI s623 0 39)) → inb 8 a1 ∧ inb 8 a1 ∧ Q (1 : Int32) (sI s623 4 (ix a1) ((gI s623 4 (ix a1)) + (1 : Int32)))) ∧ (¬ ((gI s623 4 (ix a1)) < (gI s623 0 39)) → calV PP 35 12 [.ref 0, .int a1, .int v618] s623 (fun s637 => Q (2 : Int32) s637)))))))))) : calI PP 8 12 [.ref 0, .int a1] s Q := by
  refine cal_of (me := cm8) (ls := [some (.ref 0), some (.int a1), none]) rfl (Nat.le_of_ble_eq_true rfl) rfl ?_
  refine wpc_sl (n := 2) (c' := 12) (pc' := 4) (ls' := [some (.ref 0), some (.int a1), none]) (st' := [.int (gI s 0 37)]) (s' := s) rfl ?_
  refine wpc_if (a := 9) (b := 7) rfl (by decide) rfl rfl (wpc_br (p := (gI s 0 37) = (0 : Int32)) ⟨fun hc608 => ?_, fun hc608 => ?_⟩)
  · have h609 := h.1 hc608
    refine wpc_sl (n := 1) (c' := 12) (pc' := 8) (ls' := [some (.ref 0), some (.int a1), none]) (st' := [.int (-1 : Int32)]) (s' := s) rfl ?_
    exact wpc_ret rfl rfl (fun q => absurd q (by decide)) rfl ⟨(-1 : Int32), rfl, h609⟩
  · have h610 := h.2 hc608
    refine wpc_sl (n := 2) (c' := 12) (pc' := 11) (ls' := [some (.ref 0), some (.int a1), none]) (st' := [.int a1, .ref 0]) (s' := s) rfl ?_
    refine wpc_callI (m' := 19) (me' := cm19) (as := [.int a1]) (r := []) rfl rfl rfl rfl rfl ⟨by decide, (by first | decide | exact Nat.le_of_ble_eq_true rfl), (by first | decide | exact Nat.le_of_ble_eq_true rfl), rfl⟩ (calI.mono h610 fun v612 s611 h613 => ?_)
    refine wpc_if (a := 19) (b := 17) rfl (by decide) rfl rfl (wpc_br (p := v612 = (0 : Int32)) ⟨fun hc614 => ?_, fun hc614 => ?_⟩)
    · have h615 := h613.1 hc614
      refine wpc_sl (n := 1) (c' := 12) (pc' := 18) (ls' := [some (.ref 0), some (.int a1), none]) (st' := [.int (-1 : Int32)]) (s' := s611) rfl ?_
      exact wpc_ret rfl rfl (fun q => absurd q (by decide)) rfl ⟨(-1 : Int32), rfl, h615⟩
    · have h616 := h613.2 hc614
      refine wpc_sl (n := 2) (c' := 12) (pc' := 21) (ls' := [some (.ref 0), some (.int a1), none]) (st' := [.int a1, .ref 0]) (s' := s611) rfl ?_
      refine wpc_callI (m' := 25) (me' := cm25) (as := [.int a1]) (r := []) rfl rfl rfl rfl rfl ⟨by decide, (by first | decide | exact Nat.le_of_ble_eq_true rfl), (by first | decide | exact Nat.le_of_ble_eq_true rfl), rfl⟩ (calI.mono h616 fun v618 s617 h619 => ?_)
      refine wpc_sl (n := 2) (c' := 12) (pc' := 26) (ls' := [some (.ref 0), some (.int a1), some (.int v618)]) (st' := [.int v618]) (s' := s617) rfl ?_
      refine wpc_if (a := 31) (b := 29) rfl (by decide) rfl rfl (wpc_br (p := v618 < (0 : Int32)) ⟨fun hc620 => ?_, fun hc620 => ?_⟩)
      · have h621 := h619.1 hc620
        refine wpc_sl (n := 1) (c' := 12) (pc' := 30) (ls' := [some (.ref 0), some (.int a1), some (.int v618)]) (st' := [.int (-1 : Int32)]) (s' := s617) rfl ?_
        exact wpc_ret rfl rfl (fun q => absurd q (by decide)) rfl ⟨(-1 : Int32), rfl, h621⟩
      · have h622 := h619.2 hc620
        refine wpc_sl (n := 2) (c' := 12) (pc' := 33) (ls' := [some (.ref 0), some (.int a1), some (.int v618)]) (st' := [.int a1, .ref 0]) (s' := s617) rfl ?_
        refine wpc_callI (m' := 26) (me' := cm26) (as := [.int a1]) (r := []) rfl rfl rfl rfl rfl ⟨by decide, (by first | decide | exact Nat.le_of_ble_eq_true rfl), (by first | decide | exact Nat.le_of_ble_eq_true rfl), rfl⟩ (calI.mono h622 fun v624 s623 h625 => ?_)
        refine wpc_sl (n := 1) (c' := 12) (pc' := 37) (ls' := [some (.ref 0), some (.int a1), some (.int v618)]) (st' := [.int (2 : Int32), .int v624]) (s' := s623) rfl ?_
        refine wpc_icmp (a := 56) (b := 40) rfl (by decide) rfl rfl (wpc_br (p := v624 = (2 : Int32)) ⟨fun hc626 => ?_, fun hc626 => ?_⟩)
        · have h627 := h625.1 hc626
          refine wpc_sl (n := 6) (c' := 12) (pc' := 50) (ls' := [some (.ref 0), some (.int a1), some (.int v618)]) (st' := [.int a1, .ref 4, .int a1, .ref 4]) (s' := s623) rfl ?_
          refine wpc_ldaI (a := 3) (N := 8) (v := (gI s623 4 (ix a1))) rfl rfl (by decide) h627.1 rfl ?_
          have h629 := h627.2
          refine wpc_sl (n := 2) (c' := 12) (pc' := 53) (ls' := [some (.ref 0), some (.int a1), some (.int v618)]) (st' := [.int ((gI s623 4 (ix a1)) + (1 : Int32)), .int a1, .ref 4]) (s' := s623) rfl ?_
          refine wpc_staI (a := 3) (N := 8) (s' := (sI s623 4 (ix a1) ((gI s623 4 (ix a1)) + (1 : Int32)))) rfl rfl (by decide) h629.1 rfl ?_
          have h630 := h629.2
          refine wpc_sl (n := 1) (c' := 12) (pc' := 55) (ls' := [some (.ref 0), some (.int a1), some (.int v618)]) (st' := [.int (1 : Int32)]) (s' := (sI s623 4 (ix a1) ((gI s623 4 (ix a1)) + (1 : Int32)))) rfl ?_
          exact wpc_ret rfl rfl (fun q => absurd q (by decide)) rfl ⟨(1 : Int32), rfl, h630⟩
        · have h628 := h625.2 hc626
          refine wpc_sl (n := 3) (c' := 12) (pc' := 61) (ls' := [some (.ref 0), some (.int a1), some (.int v618)]) (st' := [.int a1, .ref 4]) (s' := s623) rfl ?_
          refine wpc_ldaI (a := 3) (N := 8) (v := (gI s623 4 (ix a1))) rfl rfl (by decide) h628.1 rfl ?_
          have h631 := h628.2
          refine wpc_sl (n := 2) (c' := 12) (pc' := 66) (ls' := [some (.ref 0), some (.int a1), some (.int v618)]) (st' := [.int (gI s623 0 39), .int (gI s623 4 (ix a1))]) (s' := s623) rfl ?_
          refine wpc_icmp (a := 85) (b := 69) rfl (by decide) rfl rfl (wpc_br (p := (gI s623 4 (ix a1)) < (gI s623 0 39)) ⟨fun hc632 => ?_, fun hc632 => ?_⟩)
          · have h633 := h631.1 hc632
            refine wpc_sl (n := 6) (c' := 12) (pc' := 79) (ls' := [some (.ref 0), some (.int a1), some (.int v618)]) (st' := [.int a1, .ref 4, .int a1, .ref 4]) (s' := s623) rfl ?_
            refine wpc_ldaI (a := 3) (N := 8) (v := (gI s623 4 (ix a1))) rfl rfl (by decide) h633.1 rfl ?_
            have h635 := h633.2
            refine wpc_sl (n := 2) (c' := 12) (pc' := 82) (ls' := [some (.ref 0), some (.int a1), some (.int v618)]) (st' := [.int ((gI s623 4 (ix a1)) + (1 : Int32)), .int a1, .ref 4]) (s' := s623) rfl ?_
            refine wpc_staI (a := 3) (N := 8) (s' := (sI s623 4 (ix a1) ((gI s623 4 (ix a1)) + (1 : Int32)))) rfl rfl (by decide) h635.1 rfl ?_
            have h636 := h635.2
            refine wpc_sl (n := 1) (c' := 12) (pc' := 84) (ls' := [some (.ref 0), some (.int a1), some (.int v618)]) (st' := [.int (1 : Int32)]) (s' := (sI s623 4 (ix a1) ((gI s623 4 (ix a1)) + (1 : Int32)))) rfl ?_
            exact wpc_ret rfl rfl (fun q => absurd q (by decide)) rfl ⟨(1 : Int32), rfl, h636⟩
          · have h634 := h631.2 hc632
            refine wpc_sl (n := 3) (c' := 12) (pc' := 88) (ls' := [some (.ref 0), some (.int a1), some (.int v618)]) (st' := [.int v618, .int a1, .ref 0]) (s' := s623) rfl ?_
            refine wpc_callV (m' := 35) (me' := cm35) (as := [.int a1, .int v618]) (r := []) rfl rfl rfl rfl rfl ⟨by decide, (by first | decide | exact Nat.le_of_ble_eq_true rfl), (by first | decide | exact Nat.le_of_ble_eq_true rfl), rfl⟩ (calV.mono h634 fun s637 h639 => ?_)
            refine wpc_sl (n := 1) (c' := 12) (pc' := 92) (ls' := [some (.ref 0), some (.int a1), some (.int v618)]) (st' := [.int (2 : Int32)]) (s' := s637) rfl ?_
            exact wpc_ret rfl rfl (fun q => absurd q (by decide)) rfl ⟨(2 : Int32), rfl, h639⟩
theorem c9_in  (s : St) (Q : Int32 → St → Prop) (h : (((gI s 0 37) = (0 : Int32)) → Q (0 : Int32) s) ∧ (¬ ((gI s 0 37) = (0 : Int32)) → wpcI PP 9 cm9 12 16 [some (.ref 0), some (.int (0 : Int32))] [] (sI s 0 37 (0 : Int32)) Q)) : calI PP 9 12 [.ref 0] s Q := by
  refine cal_of (me := cm9) (ls := [some (.ref 0), none]) rfl (Nat.le_of_ble_eq_true rfl) rfl ?_
  refine wpc_sl (n := 2) (c' := 12) (pc' := 4) (ls' := [some (.ref 0), none]) (st' := [.int (gI s 0 37)]) (s' := s) rfl ?_
  refine wpc_if (a := 9) (b := 7) rfl (by decide) rfl rfl (wpc_br (p := (gI s 0 37) = (0 : Int32)) ⟨fun hc646 => ?_, fun hc646 => ?_⟩)
  · have h647 := h.1 hc646
    refine wpc_sl (n := 1) (c' := 12) (pc' := 8) (ls' := [some (.ref 0), none]) (st' := [.int (0 : Int32)]) (s' := s) rfl ?_
    exact wpc_ret rfl rfl (fun q => absurd q (by decide)) rfl ⟨(0 : Int32), rfl, h647⟩
  · have h648 := h.2 hc646
    refine wpc_sl (n := 5) (c' := 12) (pc' := 16) (ls' := [some (.ref 0), some (.int (0 : Int32))]) (st' := []) (s' := (sI s 0 37 (0 : Int32))) rfl ?_
    exact h648
theorem c9_16 (x1 : Int32) (s : St) (Q : Int32 → St → Prop) (h : ((x1 < (8 : Int32)) → calV PP 23 12 [.ref 0, .int x1] s (fun s652 => inb 8 x1 ∧ wpcI PP 9 cm9 12 16 [some (.ref 0), some (.int (x1 + (1 : Int32)))] [] (sI s652 4 (ix x1) (0 : Int32)) Q)) ∧ (¬ (x1 < (8 : Int32)) → Q (1 : Int32) s)) : wpcI PP 9 cm9 12 16 [some (.ref 0), some (.int x1)] [] s Q := by
  refine wpc_sl (n := 2) (c' := 12) (pc' := 19) (ls' := [some (.ref 0), some (.int x1)]) (st' := [.int (8 : Int32), .int x1]) (s' := s) rfl ?_
  refine wpc_icmp (a := 40) (b := 22) rfl (by decide) rfl rfl (wpc_br (p := x1 < (8 : Int32)) ⟨fun hc649 => ?_, fun hc649 => ?_⟩)
  · have h650 := h.1 hc649
    refine wpc_sl (n := 2) (c' := 12) (pc' := 24) (ls' := [some (.ref 0), some (.int x1)]) (st' := [.int x1, .ref 0]) (s' := s) rfl ?_
    refine wpc_callV (m' := 23) (me' := cm23) (as := [.int x1]) (r := []) rfl rfl rfl rfl rfl ⟨by decide, (by first | decide | exact Nat.le_of_ble_eq_true rfl), (by first | decide | exact Nat.le_of_ble_eq_true rfl), rfl⟩ (calV.mono h650 fun s652 h654 => ?_)
    refine wpc_sl (n := 4) (c' := 12) (pc' := 33) (ls' := [some (.ref 0), some (.int x1)]) (st' := [.int (0 : Int32), .int x1, .ref 4]) (s' := s652) rfl ?_
    refine wpc_staI (a := 3) (N := 8) (s' := (sI s652 4 (ix x1) (0 : Int32))) rfl rfl (by decide) h654.1 rfl ?_
    have h655 := h654.2
    refine wpc_sl (n := 2) (c' := 12) (pc' := 16) (ls' := [some (.ref 0), some (.int (x1 + (1 : Int32)))]) (st' := []) (s' := (sI s652 4 (ix x1) (0 : Int32))) rfl ?_
    exact h655
  · have h651 := h.2 hc649
    refine wpc_sl (n := 1) (c' := 12) (pc' := 41) (ls' := [some (.ref 0), some (.int x1)]) (st' := [.int (1 : Int32)]) (s' := s) rfl ?_
    exact wpc_ret rfl rfl (fun q => absurd q (by decide)) rfl ⟨(1 : Int32), rfl, h651⟩
theorem c10_in  (s : St) (Q : Int32 → St → Prop) (h : (((gI s 0 37) = (0 : Int32)) → wpcI PP 10 cm10 12 16 [some (.ref 0), some (.int (0 : Int32))] [] (sI s 0 37 (1 : Int32)) Q) ∧ (¬ ((gI s 0 37) = (0 : Int32)) → Q (0 : Int32) s)) : calI PP 10 12 [.ref 0] s Q := by
  refine cal_of (me := cm10) (ls := [some (.ref 0), none]) rfl (Nat.le_of_ble_eq_true rfl) rfl ?_
  refine wpc_sl (n := 2) (c' := 12) (pc' := 4) (ls' := [some (.ref 0), none]) (st' := [.int (gI s 0 37)]) (s' := s) rfl ?_
  refine wpc_if (a := 9) (b := 7) rfl (by decide) rfl rfl (wpc_br (p := (gI s 0 37) = (0 : Int32)) ⟨fun hc656 => ?_, fun hc656 => ?_⟩)
  · have h657 := h.1 hc656
    refine wpc_sl (n := 5) (c' := 12) (pc' := 16) (ls' := [some (.ref 0), some (.int (0 : Int32))]) (st' := []) (s' := (sI s 0 37 (1 : Int32))) rfl ?_
    exact h657
  · have h658 := h.2 hc656
    refine wpc_sl (n := 1) (c' := 12) (pc' := 8) (ls' := [some (.ref 0), none]) (st' := [.int (0 : Int32)]) (s' := s) rfl ?_
    exact wpc_ret rfl rfl (fun q => absurd q (by decide)) rfl ⟨(0 : Int32), rfl, h658⟩
theorem c10_16 (x1 : Int32) (s : St) (Q : Int32 → St → Prop) (h : ((x1 < (8 : Int32)) → inb 8 x1 ∧ calV PP 23 12 [.ref 0, .int x1] (sI s 4 (ix x1) (0 : Int32)) (fun s663 => wpcI PP 10 cm10 12 16 [some (.ref 0), some (.int (x1 + (1 : Int32)))] [] s663 Q)) ∧ (¬ (x1 < (8 : Int32)) → Q (1 : Int32) s)) : wpcI PP 10 cm10 12 16 [some (.ref 0), some (.int x1)] [] s Q := by
  refine wpc_sl (n := 2) (c' := 12) (pc' := 19) (ls' := [some (.ref 0), some (.int x1)]) (st' := [.int (8 : Int32), .int x1]) (s' := s) rfl ?_
  refine wpc_icmp (a := 40) (b := 22) rfl (by decide) rfl rfl (wpc_br (p := x1 < (8 : Int32)) ⟨fun hc659 => ?_, fun hc659 => ?_⟩)
  · have h660 := h.1 hc659
    refine wpc_sl (n := 4) (c' := 12) (pc' := 28) (ls' := [some (.ref 0), some (.int x1)]) (st' := [.int (0 : Int32), .int x1, .ref 4]) (s' := s) rfl ?_
    refine wpc_staI (a := 3) (N := 8) (s' := (sI s 4 (ix x1) (0 : Int32))) rfl rfl (by decide) h660.1 rfl ?_
    have h662 := h660.2
    refine wpc_sl (n := 2) (c' := 12) (pc' := 31) (ls' := [some (.ref 0), some (.int x1)]) (st' := [.int x1, .ref 0]) (s' := (sI s 4 (ix x1) (0 : Int32))) rfl ?_
    refine wpc_callV (m' := 23) (me' := cm23) (as := [.int x1]) (r := []) rfl rfl rfl rfl rfl ⟨by decide, (by first | decide | exact Nat.le_of_ble_eq_true rfl), (by first | decide | exact Nat.le_of_ble_eq_true rfl), rfl⟩ (calV.mono h662 fun s663 h665 => ?_)
    refine wpc_sl (n := 2) (c' := 12) (pc' := 16) (ls' := [some (.ref 0), some (.int (x1 + (1 : Int32)))]) (st' := []) (s' := s663) rfl ?_
    exact h665
  · have h661 := h.2 hc659
    refine wpc_sl (n := 1) (c' := 12) (pc' := 41) (ls' := [some (.ref 0), some (.int x1)]) (st' := [.int (1 : Int32)]) (s' := s) rfl ?_
    exact wpc_ret rfl rfl (fun q => absurd q (by decide)) rfl ⟨(1 : Int32), rfl, h661⟩
theorem c15_in (a1 : Int32) (s : St) (Q : Int32 → St → Prop) (h : ((a1 < (0 : Int32)) → Q (-1 : Int32) s) ∧ (¬ (a1 < (0 : Int32)) → (((3 : Int32) < a1) → Q (-1 : Int32) s) ∧ (¬ ((3 : Int32) < a1) → inb 4 a1 ∧ Q (gI s 1 (ix a1)) s))) : calI PP 15 12 [.ref 0, .int a1] s Q := by
  refine cal_of (me := cm15) (ls := [some (.ref 0), some (.int a1)]) rfl (Nat.le_of_ble_eq_true rfl) rfl ?_
  refine wpc_sl (n := 1) (c' := 12) (pc' := 1) (ls' := [some (.ref 0), some (.int a1)]) (st' := [.int a1]) (s' := s) rfl ?_
  refine wpc_if (a := 9) (b := 4) rfl (by decide) rfl rfl (wpc_br (p := a1 < (0 : Int32)) ⟨fun hc666 => ?_, fun hc666 => ?_⟩)
  · have h667 := h.1 hc666
    refine wpc_sl (n := 1) (c' := 12) (pc' := 10) (ls' := [some (.ref 0), some (.int a1)]) (st' := [.int (-1 : Int32)]) (s' := s) rfl ?_
    exact wpc_ret rfl rfl (fun q => absurd q (by decide)) rfl ⟨(-1 : Int32), rfl, h667⟩
  · have h668 := h.2 hc666
    refine wpc_sl (n := 2) (c' := 12) (pc' := 6) (ls' := [some (.ref 0), some (.int a1)]) (st' := [.int (3 : Int32), .int a1]) (s' := s) rfl ?_
    refine wpc_icmp (a := 11) (b := 9) rfl (by decide) rfl rfl (wpc_br (p := (3 : Int32) < a1) ⟨fun hc669 => ?_, fun hc669 => ?_⟩)
    · have h670 := h668.1 hc669
      refine wpc_sl (n := 1) (c' := 12) (pc' := 10) (ls' := [some (.ref 0), some (.int a1)]) (st' := [.int (-1 : Int32)]) (s' := s) rfl ?_
      exact wpc_ret rfl rfl (fun q => absurd q (by decide)) rfl ⟨(-1 : Int32), rfl, h670⟩
    · have h671 := h668.2 hc669
      refine wpc_sl (n := 3) (c' := 12) (pc' := 16) (ls' := [some (.ref 0), some (.int a1)]) (st' := [.int a1, .ref 1]) (s' := s) rfl ?_
      refine wpc_ldaI (a := 0) (N := 4) (v := (gI s 1 (ix a1))) rfl rfl (by decide) h671.1 rfl ?_
      have h672 := h671.2
      exact wpc_ret rfl rfl (fun q => absurd q (by decide)) rfl ⟨(gI s 1 (ix a1)), rfl, h672⟩
theorem c11_in (a1 : Int32) (s : St) (Q : Int32 → St → Prop) (h : calI PP 19 12 [.ref 0, .int a1] s (fun v674 s673 => ((v674 = (0 : Int32)) → Q (-1 : Int32) s673) ∧ (¬ (v674 = (0 : Int32)) → inb 8 a1 ∧ Q (gI s673 2 (ix a1)) s673))) : calI PP 11 12 [.ref 0, .int a1] s Q := by
  refine cal_of (me := cm11) (ls := [some (.ref 0), some (.int a1)]) rfl (Nat.le_of_ble_eq_true rfl) rfl ?_
  refine wpc_sl (n := 2) (c' := 12) (pc' := 2) (ls' := [some (.ref 0), some (.int a1)]) (st' := [.int a1, .ref 0]) (s' := s) rfl ?_
  refine wpc_callI (m' := 19) (me' := cm19) (as := [.int a1]) (r := []) rfl rfl rfl rfl rfl ⟨by decide, (by first | decide | exact Nat.le_of_ble_eq_true rfl), (by first | decide | exact Nat.le_of_ble_eq_true rfl), rfl⟩ (calI.mono h fun v674 s673 h675 => ?_)
  refine wpc_if (a := 10) (b := 8) rfl (by decide) rfl rfl (wpc_br (p := v674 = (0 : Int32)) ⟨fun hc676 => ?_, fun hc676 => ?_⟩)
  · have h677 := h675.1 hc676
    refine wpc_sl (n := 1) (c' := 12) (pc' := 9) (ls' := [some (.ref 0), some (.int a1)]) (st' := [.int (-1 : Int32)]) (s' := s673) rfl ?_
    exact wpc_ret rfl rfl (fun q => absurd q (by decide)) rfl ⟨(-1 : Int32), rfl, h677⟩
  · have h678 := h675.2 hc676
    refine wpc_sl (n := 3) (c' := 12) (pc' := 15) (ls' := [some (.ref 0), some (.int a1)]) (st' := [.int a1, .ref 2]) (s' := s673) rfl ?_
    refine wpc_ldaI (a := 1) (N := 8) (v := (gI s673 2 (ix a1))) rfl rfl (by decide) h678.1 rfl ?_
    have h679 := h678.2
    exact wpc_ret rfl rfl (fun q => absurd q (by decide)) rfl ⟨(gI s673 2 (ix a1)), rfl, h679⟩
theorem c20_in (a1 : Int32) (a2 : Int32) (s : St) (Q : Int32 → St → Prop) (h : ((a2 < (0 : Int32)) → Q (0 : Int32) s) ∧ (¬ (a2 < (0 : Int32)) → inb 8 a1 ∧ ((a2 < (gI s 3 (ix a1))) → ((a2 < (6 : Int32)) → Q (1 : Int32) s) ∧ (¬ (a2 < (6 : Int32)) → Q (0 : Int32) s)) ∧ (¬ (a2 < (gI s 3 (ix a1))) → Q (0 : Int32) s))) : calI PP 20 12 [.ref 0, .int a1, .int a2] s Q := by
  refine cal_of (me := cm20) (ls := [some (.ref 0), some (.int a1), some (.int a2)]) rfl (Nat.le_of_ble_eq_true rfl) rfl ?_
  refine wpc_sl (n := 1) (c' := 12) (pc' := 1) (ls' := [some (.ref 0), some (.int a1), some (.int a2)]) (st' := [.int a2]) (s' := s) rfl ?_
  refine wpc_if (a := 24) (b := 4) rfl (by decide) rfl rfl (wpc_br (p := a2 < (0 : Int32)) ⟨fun hc707 => ?_, fun hc707 => ?_⟩)
  · have h708 := h.1 hc707
    refine wpc_sl (n := 1) (c' := 12) (pc' := 25) (ls' := [some (.ref 0), some (.int a1), some (.int a2)]) (st' := [.int (0 : Int32)]) (s' := s) rfl ?_
    exact wpc_ret rfl rfl (fun q => absurd q (by decide)) rfl ⟨(0 : Int32), rfl, h708⟩
  · have h709 := h.2 hc707
    refine wpc_sl (n := 4) (c' := 12) (pc' := 10) (ls' := [some (.ref 0), some (.int a1), some (.int a2)]) (st' := [.int a1, .ref 3, .int a2]) (s' := s) rfl ?_
    refine wpc_ldaI (a := 2) (N := 8) (v := (gI s 3 (ix a1))) rfl rfl (by decide) h709.1 rfl ?_
    have h710 := h709.2
    refine wpc_icmp (a := 24) (b := 14) rfl (by decide) rfl rfl (wpc_br (p := a2 < (gI s 3 (ix a1))) ⟨fun hc711 => ?_, fun hc711 => ?_⟩)
    · have h712 := h710.1 hc711
      refine wpc_sl (n := 2) (c' := 12) (pc' := 17) (ls' := [some (.ref 0), some (.int a1), some (.int a2)]) (st' := [.int (6 : Int32), .int a2]) (s' := s) rfl ?_
      refine wpc_icmp (a := 24) (b := 20) rfl (by decide) rfl rfl (wpc_br (p := a2 < (6 : Int32)) ⟨fun hc714 => ?_, fun hc714 => ?_⟩)
      · have h715 := h712.1 hc714
        refine wpc_sl (n := 2) (c' := 12) (pc' := 25) (ls' := [some (.ref 0), some (.int a1), some (.int a2)]) (st' := [.int (1 : Int32)]) (s' := s) rfl ?_
        exact wpc_ret rfl rfl (fun q => absurd q (by decide)) rfl ⟨(1 : Int32), rfl, h715⟩
      · have h716 := h712.2 hc714
        refine wpc_sl (n := 1) (c' := 12) (pc' := 25) (ls' := [some (.ref 0), some (.int a1), some (.int a2)]) (st' := [.int (0 : Int32)]) (s' := s) rfl ?_
        exact wpc_ret rfl rfl (fun q => absurd q (by decide)) rfl ⟨(0 : Int32), rfl, h716⟩
    · have h713 := h710.2 hc711
      refine wpc_sl (n := 1) (c' := 12) (pc' := 25) (ls' := [some (.ref 0), some (.int a1), some (.int a2)]) (st' := [.int (0 : Int32)]) (s' := s) rfl ?_
      exact wpc_ret rfl rfl (fun q => absurd q (by decide)) rfl ⟨(0 : Int32), rfl, h713⟩
theorem c27_in (a1 : Int32) (a2 : Int32) (a3 : Int32) (s : St) (Q : Int32 → St → Prop) (h : calI PP 21 12 [.ref 0, .int a1, .int a2] s (fun v718 s717 => inb 48 v718 ∧ ((a3 = (1 : Int32)) → (((gI s717 11 (ix v718)) = (0 : Int32)) → Q (0 : Int32) s717) ∧ (¬ ((gI s717 11 (ix v718)) = (0 : Int32)) → Q (1 : Int32) s717)) ∧ (¬ (a3 = (1 : Int32)) → (((gI s717 11 (ix v718)) = (4 : Int32)) → Q (1 : Int32) s717) ∧ (¬ ((gI s717 11 (ix v718)) = (4 : Int32)) → (((gI s717 11 (ix v718)) = (5 : Int32)) → Q (1 : Int32) s717) ∧ (¬ ((gI s717 11 (ix v718)) = (5 : Int32)) → Q (0 : Int32) s717))))) : calI PP 27 12 [.ref 0, .int a1, .int a2, .int a3] s Q := by
  refine cal_of (me := cm27) (ls := [some (.ref 0), some (.int a1), some (.int a2), some (.int a3), none]) rfl (Nat.le_of_ble_eq_true rfl) rfl ?_
  refine wpc_sl (n := 5) (c' := 12) (pc' := 7) (ls' := [some (.ref 0), some (.int a1), some (.int a2), some (.int a3), none]) (st' := [.int a2, .int a1, .ref 0, .ref 11]) (s' := s) rfl ?_
  refine wpc_callI (m' := 21) (me' := cm21) (as := [.int a1, .int a2]) (r := [.ref 11]) rfl rfl rfl rfl rfl ⟨by decide, (by first | decide | exact Nat.le_of_ble_eq_true rfl), (by first | decide | exact Nat.le_of_ble_eq_true rfl), rfl⟩ (calI.mono h fun v718 s717 h719 => ?_)
  refine wpc_ldaI (a := 10) (N := 48) (v := (gI s717 11 (ix v718))) rfl rfl (by decide) h719.1 rfl ?_
  have h720 := h719.2
  refine wpc_sl (n := 3) (c' := 12) (pc' := 15) (ls' := [some (.ref 0), some (.int a1), some (.int a2), some (.int a3), some (.int (gI s717 11 (ix v718)))]) (st' := [.int (1 : Int32), .int a3]) (s' := s717) rfl ?_
  refine wpc_icmp (a := 29) (b := 18) rfl (by decide) rfl rfl (wpc_br (p := a3 = (1 : Int32)) ⟨fun hc721 => ?_, fun hc721 => ?_⟩)
  · have h722 := h720.1 hc721
    refine wpc_sl (n := 1) (c' := 12) (pc' := 20) (ls' := [some (.ref 0), some (.int a1), some (.int a2), some (.int a3), some (.int (gI s717 11 (ix v718)))]) (st' := [.int (gI s717 11 (ix v718))]) (s' := s717) rfl ?_
    refine wpc_if (a := 27) (b := 23) rfl (by decide) rfl rfl (wpc_br (p := (gI s717 11 (ix v718)) = (0 : Int32)) ⟨fun hc724 => ?_, fun hc724 => ?_⟩)
    · have h725 := h722.1 hc724
      refine wpc_sl (n := 1) (c' := 12) (pc' := 28) (ls' := [some (.ref 0), some (.int a1), some (.int a2), some (.int a3), some (.int (gI s717 11 (ix v718)))]) (st' := [.int (0 : Int32)]) (s' := s717) rfl ?_
      exact wpc_ret rfl rfl (fun q => absurd q (by decide)) rfl ⟨(0 : Int32), rfl, h725⟩
    · have h726 := h722.2 hc724
      refine wpc_sl (n := 2) (c' := 12) (pc' := 28) (ls' := [some (.ref 0), some (.int a1), some (.int a2), some (.int a3), some (.int (gI s717 11 (ix v718)))]) (st' := [.int (1 : Int32)]) (s' := s717) rfl ?_
      exact wpc_ret rfl rfl (fun q => absurd q (by decide)) rfl ⟨(1 : Int32), rfl, h726⟩
  · have h723 := h720.2 hc721
    refine wpc_sl (n := 2) (c' := 12) (pc' := 32) (ls' := [some (.ref 0), some (.int a1), some (.int a2), some (.int a3), some (.int (gI s717 11 (ix v718)))]) (st' := [.int (4 : Int32), .int (gI s717 11 (ix v718))]) (s' := s717) rfl ?_
    refine wpc_icmp (a := 41) (b := 35) rfl (by decide) rfl rfl (wpc_br (p := (gI s717 11 (ix v718)) = (4 : Int32)) ⟨fun hc727 => ?_, fun hc727 => ?_⟩)
    · have h728 := h723.1 hc727
      refine wpc_sl (n := 2) (c' := 12) (pc' := 46) (ls' := [some (.ref 0), some (.int a1), some (.int a2), some (.int a3), some (.int (gI s717 11 (ix v718)))]) (st' := [.int (1 : Int32)]) (s' := s717) rfl ?_
      exact wpc_ret rfl rfl (fun q => absurd q (by decide)) rfl ⟨(1 : Int32), rfl, h728⟩
    · have h729 := h723.2 hc727
      refine wpc_sl (n := 2) (c' := 12) (pc' := 38) (ls' := [some (.ref 0), some (.int a1), some (.int a2), some (.int a3), some (.int (gI s717 11 (ix v718)))]) (st' := [.int (5 : Int32), .int (gI s717 11 (ix v718))]) (s' := s717) rfl ?_
      refine wpc_icmp (a := 45) (b := 41) rfl (by decide) rfl rfl (wpc_br (p := (gI s717 11 (ix v718)) = (5 : Int32)) ⟨fun hc730 => ?_, fun hc730 => ?_⟩)
      · have h731 := h729.1 hc730
        refine wpc_sl (n := 2) (c' := 12) (pc' := 46) (ls' := [some (.ref 0), some (.int a1), some (.int a2), some (.int a3), some (.int (gI s717 11 (ix v718)))]) (st' := [.int (1 : Int32)]) (s' := s717) rfl ?_
        exact wpc_ret rfl rfl (fun q => absurd q (by decide)) rfl ⟨(1 : Int32), rfl, h731⟩
      · have h732 := h729.2 hc730
        refine wpc_sl (n := 1) (c' := 12) (pc' := 46) (ls' := [some (.ref 0), some (.int a1), some (.int a2), some (.int a3), some (.int (gI s717 11 (ix v718)))]) (st' := [.int (0 : Int32)]) (s' := s717) rfl ?_
        exact wpc_ret rfl rfl (fun q => absurd q (by decide)) rfl ⟨(0 : Int32), rfl, h732⟩
theorem c6_in (a1 : Int32) (a2 : Int32) (a3 : Int32) (s : St) (Q : Int32 → St → Prop) (h : calI PP 19 12 [.ref 0, .int a1] s (fun v681 s680 => ((v681 = (0 : Int32)) → Q (-1 : Int32) s680) ∧ (¬ (v681 = (0 : Int32)) → calI PP 20 12 [.ref 0, .int a1, .int a2] s680 (fun v687 s686 => ((v687 = (0 : Int32)) → Q (-1 : Int32) s686) ∧ (¬ (v687 = (0 : Int32)) → ((a3 = (1 : Int32)) → wpcI PP 6 cm6 12 33 [some (.ref 0), some (.int a1), some (.int a2), some (.int a3)] [] s686 Q) ∧ (¬ (a3 = (1 : Int32)) → ((a3 = (2 : Int32)) → wpcI PP 6 cm6 12 33 [some (.ref 0), some (.int a1), some (.int a2), some (.int a3)] [] s686 Q) ∧ (¬ (a3 = (2 : Int32)) → Q (-1 : Int32) s686))))))) : calI PP 6 12 [.ref 0, .int a1, .int a2, .int a3] s Q := by
  refine cal_of (me := cm6) (ls := [some (.ref 0), some (.int a1), some (.int a2), some (.int a3)]) rfl (Nat.le_of_ble_eq_true rfl) rfl ?_
  refine wpc_sl (n := 2) (c' := 12) (pc' := 2) (ls' := [some (.ref 0), some (.int a1), some (.int a2), some (.int a3)]) (st' := [.int a1, .ref 0]) (s' := s) rfl ?_
  refine wpc_callI (m' := 19) (me' := cm19) (as := [.int a1]) (r := []) rfl rfl rfl rfl rfl ⟨by decide, (by first | decide | exact Nat.le_of_ble_eq_true rfl), (by first | decide | exact Nat.le_of_ble_eq_true rfl), rfl⟩ (calI.mono h fun v681 s680 h682 => ?_)
  refine wpc_if (a := 10) (b := 8) rfl (by decide) rfl rfl (wpc_br (p := v681 = (0 : Int32)) ⟨fun hc683 => ?_, fun hc683 => ?_⟩)
  · have h684 := h682.1 hc683
    refine wpc_sl (n := 1) (c' := 12) (pc' := 9) (ls' := [some (.ref 0), some (.int a1), some (.int a2), some (.int a3)]) (st' := [.int (-1 : Int32)]) (s' := s680) rfl ?_
    exact wpc_ret rfl rfl (fun q => absurd q (by decide)) rfl ⟨(-1 : Int32), rfl, h684⟩
  · have h685 := h682.2 hc683
    refine wpc_sl (n := 3) (c' := 12) (pc' := 13) (ls' := [some (.ref 0), some (.int a1), some (.int a2), some (.int a3)]) (st' := [.int a2, .int a1, .ref 0]) (s' := s680) rfl ?_
    refine wpc_callI (m' := 20) (me' := cm20) (as := [.int a1, .int a2]) (r := []) rfl rfl rfl rfl rfl ⟨by decide, (by first | decide | exact Nat.le_of_ble_eq_true rfl), (by first | decide | exact Nat.le_of_ble_eq_true rfl), rfl⟩ (calI.mono h685 fun v687 s686 h688 => ?_)
    refine wpc_if (a := 21) (b := 19) rfl (by decide) rfl rfl (wpc_br (p := v687 = (0 : Int32)) ⟨fun hc689 => ?_, fun hc689 => ?_⟩)
    · have h690 := h688.1 hc689
      refine wpc_sl (n := 1) (c' := 12) (pc' := 20) (ls' := [some (.ref 0), some (.int a1), some (.int a2), some (.int a3)]) (st' := [.int (-1 : Int32)]) (s' := s686) rfl ?_
      exact wpc_ret rfl rfl (fun q => absurd q (by decide)) rfl ⟨(-1 : Int32), rfl, h690⟩
    · have h691 := h688.2 hc689
      refine wpc_sl (n := 2) (c' := 12) (pc' := 23) (ls' := [some (.ref 0), some (.int a1), some (.int a2), some (.int a3)]) (st' := [.int (1 : Int32), .int a3]) (s' := s686) rfl ?_
      refine wpc_icmp (a := 33) (b := 26) rfl (by decide) rfl rfl (wpc_br (p := a3 = (1 : Int32)) ⟨fun hc692 => ?_, fun hc692 => ?_⟩)
      · have h693 := h691.1 hc692
        exact h693
      · have h694 := h691.2 hc692
        refine wpc_sl (n := 2) (c' := 12) (pc' := 28) (ls' := [some (.ref 0), some (.int a1), some (.int a2), some (.int a3)]) (st' := [.int (2 : Int32), .int a3]) (s' := s686) rfl ?_
        refine wpc_icmp (a := 33) (b := 31) rfl (by decide) rfl rfl (wpc_br (p := a3 = (2 : Int32)) ⟨fun hc695 => ?_, fun hc695 => ?_⟩)
        · have h696 := h694.1 hc695
          exact h696
        · have h697 := h694.2 hc695
          refine wpc_sl (n := 1) (c' := 12) (pc' := 32) (ls' := [some (.ref 0), some (.int a1), some (.int a2), some (.int a3)]) (st' := [.int (-1 : Int32)]) (s' := s686) rfl ?_
          exact wpc_ret rfl rfl (fun q => absurd q (by decide)) rfl ⟨(-1 : Int32), rfl, h697⟩
theorem c6_33 (x1 : Int32) (x2 : Int32) (x3 : Int32) (s : St) (Q : Int32 → St → Prop) (h : calI PP 27 12 [.ref 0, .int x1, .int x2, .int x3] s (fun v699 s698 => ((v699 = (0 : Int32)) → Q (-1 : Int32) s698) ∧ (¬ (v699 = (0 : Int32)) → calI PP 29 12 [.ref 0, .int x1, .int x2, .int x3] s698 (fun v705 s704 => Q v705 s704)))) : wpcI PP 6 cm6 12 33 [some (.ref 0), some (.int x1), some (.int x2), some (.int x3)] [] s Q := by
  refine wpc_sl (n := 4) (c' := 12) (pc' := 37) (ls' := [some (.ref 0), some (.int x1), some (.int x2), some (.int x3)]) (st' := [.int x3, .int x2, .int x1, .ref 0]) (s' := s) rfl ?_
  refine wpc_callI (m' := 27) (me' := cm27) (as := [.int x1, .int x2, .int x3]) (r := []) rfl rfl rfl rfl rfl ⟨by decide, (by first | decide | exact Nat.le_of_ble_eq_true rfl), (by first | decide | exact Nat.le_of_ble_eq_true rfl), rfl⟩ (calI.mono h fun v699 s698 h700 => ?_)
  refine wpc_if (a := 45) (b := 43) rfl (by decide) rfl rfl (wpc_br (p := v699 = (0 : Int32)) ⟨fun hc701 => ?_, fun hc701 => ?_⟩)
  · have h702 := h700.1 hc701
    refine wpc_sl (n := 1) (c' := 12) (pc' := 44) (ls' := [some (.ref 0), some (.int x1), some (.int x2), some (.int x3)]) (st' := [.int (-1 : Int32)]) (s' := s698) rfl ?_
    exact wpc_ret rfl rfl (fun q => absurd q (by decide)) rfl ⟨(-1 : Int32), rfl, h702⟩
  · have h703 := h700.2 hc701
    refine wpc_sl (n := 4) (c' := 12) (pc' := 49) (ls' := [some (.ref 0), some (.int x1), some (.int x2), some (.int x3)]) (st' := [.int x3, .int x2, .int x1, .ref 0]) (s' := s698) rfl ?_
    refine wpc_callI (m' := 29) (me' := cm29) (as := [.int x1, .int x2, .int x3]) (r := []) rfl rfl rfl rfl rfl ⟨by decide, (by first | decide | exact Nat.le_of_ble_eq_true rfl), (by first | decide | exact Nat.le_of_ble_eq_true rfl), rfl⟩ (calI.mono h703 fun v705 s704 h706 => ?_)
    exact wpc_ret rfl rfl (fun q => absurd q (by decide)) rfl ⟨v705, rfl, h706⟩
theorem c14_in (a1 : Int32) (a2 : Int32) (s : St) (Q : Int32 → St → Prop) (h : calI PP 19 12 [.ref 0, .int a1] s (fun v734 s733 => ((v734 = (0 : Int32)) → Q (-1 : Int32) s733) ∧ (¬ (v734 = (0 : Int32)) → calI PP 20 12 [.ref 0, .int a1, .int a2] s733 (fun v740 s739 => ((v740 = (0 : Int32)) → Q (-1 : Int32) s739) ∧ (¬ (v740 = (0 : Int32)) → calI PP 21 12 [.ref 0, .int a1, .int a2] s739 (fun v746 s745 => inb 48 v746 ∧ Q (gI s745 12 (ix v746)) s745)))))) : calI PP 14 12 [.ref 0, .int a1, .int a2] s Q := by
  refine cal_of (me := cm14) (ls := [some (.ref 0), some (.int a1), some (.int a2)]) rfl (Nat.le_of_ble_eq_true rfl) rfl ?_
  refine wpc_sl (n := 2) (c' := 12) (pc' := 2) (ls' := [some (.ref 0), some (.int a1), some (.int a2)]) (st' := [.int a1, .ref 0]) (s' := s) rfl ?_
  refine wpc_callI (m' := 19) (me' := cm19) (as := [.int a1]) (r := []) rfl rfl rfl rfl rfl ⟨by decide, (by first | decide | exact Nat.le_of_ble_eq_true rfl), (by first | decide | exact Nat.le_of_ble_eq_true rfl), rfl⟩ (calI.mono h fun v734 s733 h735 => ?_)
  refine wpc_if (a := 10) (b := 8) rfl (by decide) rfl rfl (wpc_br (p := v734 = (0 : Int32)) ⟨fun hc736 => ?_, fun hc736 => ?_⟩)
  · have h737 := h735.1 hc736
    refine wpc_sl (n := 1) (c' := 12) (pc' := 9) (ls' := [some (.ref 0), some (.int a1), some (.int a2)]) (st' := [.int (-1 : Int32)]) (s' := s733) rfl ?_
    exact wpc_ret rfl rfl (fun q => absurd q (by decide)) rfl ⟨(-1 : Int32), rfl, h737⟩
  · have h738 := h735.2 hc736
    refine wpc_sl (n := 3) (c' := 12) (pc' := 13) (ls' := [some (.ref 0), some (.int a1), some (.int a2)]) (st' := [.int a2, .int a1, .ref 0]) (s' := s733) rfl ?_
    refine wpc_callI (m' := 20) (me' := cm20) (as := [.int a1, .int a2]) (r := []) rfl rfl rfl rfl rfl ⟨by decide, (by first | decide | exact Nat.le_of_ble_eq_true rfl), (by first | decide | exact Nat.le_of_ble_eq_true rfl), rfl⟩ (calI.mono h738 fun v740 s739 h741 => ?_)
    refine wpc_if (a := 21) (b := 19) rfl (by decide) rfl rfl (wpc_br (p := v740 = (0 : Int32)) ⟨fun hc742 => ?_, fun hc742 => ?_⟩)
    · have h743 := h741.1 hc742
      refine wpc_sl (n := 1) (c' := 12) (pc' := 20) (ls' := [some (.ref 0), some (.int a1), some (.int a2)]) (st' := [.int (-1 : Int32)]) (s' := s739) rfl ?_
      exact wpc_ret rfl rfl (fun q => absurd q (by decide)) rfl ⟨(-1 : Int32), rfl, h743⟩
    · have h744 := h741.2 hc742
      refine wpc_sl (n := 5) (c' := 12) (pc' := 28) (ls' := [some (.ref 0), some (.int a1), some (.int a2)]) (st' := [.int a2, .int a1, .ref 0, .ref 12]) (s' := s739) rfl ?_
      refine wpc_callI (m' := 21) (me' := cm21) (as := [.int a1, .int a2]) (r := [.ref 12]) rfl rfl rfl rfl rfl ⟨by decide, (by first | decide | exact Nat.le_of_ble_eq_true rfl), (by first | decide | exact Nat.le_of_ble_eq_true rfl), rfl⟩ (calI.mono h744 fun v746 s745 h747 => ?_)
      refine wpc_ldaI (a := 11) (N := 48) (v := (gI s745 12 (ix v746))) rfl rfl (by decide) h747.1 rfl ?_
      have h748 := h747.2
      exact wpc_ret rfl rfl (fun q => absurd q (by decide)) rfl ⟨(gI s745 12 (ix v746)), rfl, h748⟩
theorem c13_in (a1 : Int32) (a2 : Int32) (s : St) (Q : Int32 → St → Prop) (h : calI PP 19 12 [.ref 0, .int a1] s (fun v750 s749 => ((v750 = (0 : Int32)) → Q (-1 : Int32) s749) ∧ (¬ (v750 = (0 : Int32)) → calI PP 20 12 [.ref 0, .int a1, .int a2] s749 (fun v756 s755 => ((v756 = (0 : Int32)) → Q (-1 : Int32) s755) ∧ (¬ (v756 = (0 : Int32)) → calI PP 21 12 [.ref 0, .int a1, .int a2] s755 (fun v762 s761 => inb 48 v762 ∧ Q (gI s761 11 (ix v762)) s761)))))) : calI PP 13 12 [.ref 0, .int a1, .int a2] s Q := by
  refine cal_of (me := cm13) (ls := [some (.ref 0), some (.int a1), some (.int a2)]) rfl (Nat.le_of_ble_eq_true rfl) rfl ?_
  refine wpc_sl (n := 2) (c' := 12) (pc' := 2) (ls' := [some (.ref 0), some (.int a1), some (.int a2)]) (st' := [.int a1, .ref 0]) (s' := s) rfl ?_
  refine wpc_callI (m' := 19) (me' := cm19) (as := [.int a1]) (r := []) rfl rfl rfl rfl rfl ⟨by decide, (by first | decide | exact Nat.le_of_ble_eq_true rfl), (by first | decide | exact Nat.le_of_ble_eq_true rfl), rfl⟩ (calI.mono h fun v750 s749 h751 => ?_)
  refine wpc_if (a := 10) (b := 8) rfl (by decide) rfl rfl (wpc_br (p := v750 = (0 : Int32)) ⟨fun hc752 => ?_, fun hc752 => ?_⟩)
  · have h753 := h751.1 hc752
    refine wpc_sl (n := 1) (c' := 12) (pc' := 9) (ls' := [some (.ref 0), some (.int a1), some (.int a2)]) (st' := [.int (-1 : Int32)]) (s' := s749) rfl ?_
    exact wpc_ret rfl rfl (fun q => absurd q (by decide)) rfl ⟨(-1 : Int32), rfl, h753⟩
  · have h754 := h751.2 hc752
    refine wpc_sl (n := 3) (c' := 12) (pc' := 13) (ls' := [some (.ref 0), some (.int a1), some (.int a2)]) (st' := [.int a2, .int a1, .ref 0]) (s' := s749) rfl ?_
    refine wpc_callI (m' := 20) (me' := cm20) (as := [.int a1, .int a2]) (r := []) rfl rfl rfl rfl rfl ⟨by decide, (by first | decide | exact Nat.le_of_ble_eq_true rfl), (by first | decide | exact Nat.le_of_ble_eq_true rfl), rfl⟩ (calI.mono h754 fun v756 s755 h757 => ?_)
    refine wpc_if (a := 21) (b := 19) rfl (by decide) rfl rfl (wpc_br (p := v756 = (0 : Int32)) ⟨fun hc758 => ?_, fun hc758 => ?_⟩)
    · have h759 := h757.1 hc758
      refine wpc_sl (n := 1) (c' := 12) (pc' := 20) (ls' := [some (.ref 0), some (.int a1), some (.int a2)]) (st' := [.int (-1 : Int32)]) (s' := s755) rfl ?_
      exact wpc_ret rfl rfl (fun q => absurd q (by decide)) rfl ⟨(-1 : Int32), rfl, h759⟩
    · have h760 := h757.2 hc758
      refine wpc_sl (n := 5) (c' := 12) (pc' := 28) (ls' := [some (.ref 0), some (.int a1), some (.int a2)]) (st' := [.int a2, .int a1, .ref 0, .ref 11]) (s' := s755) rfl ?_
      refine wpc_callI (m' := 21) (me' := cm21) (as := [.int a1, .int a2]) (r := [.ref 11]) rfl rfl rfl rfl rfl ⟨by decide, (by first | decide | exact Nat.le_of_ble_eq_true rfl), (by first | decide | exact Nat.le_of_ble_eq_true rfl), rfl⟩ (calI.mono h760 fun v762 s761 h763 => ?_)
      refine wpc_ldaI (a := 10) (N := 48) (v := (gI s761 11 (ix v762))) rfl rfl (by decide) h763.1 rfl ?_
      have h764 := h763.2
      exact wpc_ret rfl rfl (fun q => absurd q (by decide)) rfl ⟨(gI s761 11 (ix v762)), rfl, h764⟩
theorem l0_in (N : Nat) (sg : Nat → Int32)   (Q : Int32 → Wd → Prop) (h : lalI PP QQ (some (N, sg)) 2 [.ref 0, .int (0 : Int32)] W0 (fun v2 w1 => w1 = W0 ∧ (lalI PP QQ (some (N, sg)) 3 [.int ((v2 % (600 : Int32)) - (50 : Int32)), .int (0 : Int32), .int (500 : Int32)] W0 (fun v5 w4 => w4 = W0 ∧ (lalI PP QQ (some (N, sg)) 2 [.ref 0, .int (1 : Int32)] W0p (fun v8 w7 => w7 = W0p ∧ (lalI PP QQ (some (N, sg)) 2 [.ref 0, .int (2 : Int32)] W0p (fun v11 w10 => w10 = W0p ∧ (calV PP 0 0 [.ref 0, .int ((v2 % (600 : Int32)) - (50 : Int32)), .int ((v8 % (8 : Int32)) - (1 : Int32)), .int (v11 % (10 : Int32))] s0 (fun s13 => lalI PP QQ (some (N, sg)) 2 [.ref 0, .int (3 : Int32)] (W1 s13) (fun v16 w15 => ∃ s18, w15 = W1 s18 ∧ (wplI PP QQ (some (N, sg)) 0 lm0 56 [some (.ref 0), none, some (.int v5), some (.ref 1), some (.int v16), none, none, none, none, none, none, none, none, none, none, none, none, none, none, none, none, none, none, none, none] [] (W1 s18) Q)))))))))))) : lalI PP QQ (some (N, sg)) 0 [.ref 0] W0 Q := by
  refine lal_of (me := lm0) (ls := [some (.ref 0), none, none, none, none, none, none, none, none, none, none, none, none, none, none, none, none, none, none, none, none, none, none, none, none]) rfl (Nat.le_of_ble_eq_true rfl) rfl ?_
  refine wpl_sl (n := 2) (pc' := 2) (ls' := [some (.ref 0), none, none, none, none, none, none, none, none, none, none, none, none, none, none, none, none, none, none, none, none, none, none, none, none]) (st' := [.int (0 : Int32), .ref 0]) rfl ?_
  refine wpl_stat (m' := 2) (me' := lm2) (as := [.ref 0, .int (0 : Int32)]) (r := []) rfl rfl rfl rfl rfl ⟨(by first | decide | exact Nat.le_of_ble_eq_true rfl), (by first | decide | exact Nat.le_of_ble_eq_true rfl), (by first | decide | exact Nat.le_of_ble_eq_true rfl), (by first | decide | exact Nat.le_of_ble_eq_true rfl), rfl⟩ (lal_I (lalI.mono h fun v2 w1 hh => ?_))
  obtain ⟨rfl, h3⟩ := hh
  refine wpl_sl (n := 8) (pc' := 18) (ls' := [some (.ref 0), some (.int ((v2 % (600 : Int32)) - (50 : Int32))), none, none, none, none, none, none, none, none, none, none, none, none, none, none, none, none, none, none, none, none, none, none, none]) (st' := [.int (500 : Int32), .int (0 : Int32), .int ((v2 % (600 : Int32)) - (50 : Int32))]) rfl ?_
  refine wpl_stat (m' := 3) (me' := lm3) (as := [.int ((v2 % (600 : Int32)) - (50 : Int32)), .int (0 : Int32), .int (500 : Int32)]) (r := []) rfl rfl rfl rfl rfl ⟨(by first | decide | exact Nat.le_of_ble_eq_true rfl), (by first | decide | exact Nat.le_of_ble_eq_true rfl), (by first | decide | exact Nat.le_of_ble_eq_true rfl), (by first | decide | exact Nat.le_of_ble_eq_true rfl), rfl⟩ (lal_I (lalI.mono h3 fun v5 w4 hh => ?_))
  obtain ⟨rfl, h6⟩ := hh
  refine wpl_sl (n := 1) (pc' := 22) (ls' := [some (.ref 0), some (.int ((v2 % (600 : Int32)) - (50 : Int32))), some (.int v5), none, none, none, none, none, none, none, none, none, none, none, none, none, none, none, none, none, none, none, none, none, none]) (st' := []) rfl ?_
  refine wpl_new0 rfl rfl (by decide) (by decide) ?_
  refine wpl_sl (n := 4) (pc' := 29) (ls' := [some (.ref 0), some (.int ((v2 % (600 : Int32)) - (50 : Int32))), some (.int v5), none, none, none, none, none, none, none, none, none, none, none, none, none, none, none, none, none, none, none, none, none, none]) (st' := [.int (1 : Int32), .ref 0, .int ((v2 % (600 : Int32)) - (50 : Int32)), .ref 1, .ref 1]) rfl ?_
  refine wpl_stat (m' := 2) (me' := lm2) (as := [.ref 0, .int (1 : Int32)]) (r := [.int ((v2 % (600 : Int32)) - (50 : Int32)), .ref 1, .ref 1]) rfl rfl rfl rfl rfl ⟨(by first | decide | exact Nat.le_of_ble_eq_true rfl), (by first | decide | exact Nat.le_of_ble_eq_true rfl), (by first | decide | exact Nat.le_of_ble_eq_true rfl), (by first | decide | exact Nat.le_of_ble_eq_true rfl), rfl⟩ (lal_I (lalI.mono h6 fun v8 w7 hh => ?_))
  obtain ⟨rfl, h9⟩ := hh
  refine wpl_sl (n := 6) (pc' := 39) (ls' := [some (.ref 0), some (.int ((v2 % (600 : Int32)) - (50 : Int32))), some (.int v5), none, none, none, none, none, none, none, none, none, none, none, none, none, none, none, none, none, none, none, none, none, none]) (st' := [.int (2 : Int32), .ref 0, .int ((v8 % (8 : Int32)) - (1 : Int32)), .int ((v2 % (600 : Int32)) - (50 : Int32)), .ref 1, .ref 1]) rfl ?_
  refine wpl_stat (m' := 2) (me' := lm2) (as := [.ref 0, .int (2 : Int32)]) (r := [.int ((v8 % (8 : Int32)) - (1 : Int32)), .int ((v2 % (600 : Int32)) - (50 : Int32)), .ref 1, .ref 1]) rfl rfl rfl rfl rfl ⟨(by first | decide | exact Nat.le_of_ble_eq_true rfl), (by first | decide | exact Nat.le_of_ble_eq_true rfl), (by first | decide | exact Nat.le_of_ble_eq_true rfl), (by first | decide | exact Nat.le_of_ble_eq_true rfl), rfl⟩ (lal_I (lalI.mono h9 fun v11 w10 hh => ?_))
  obtain ⟨rfl, h12⟩ := hh
  refine wpl_sl (n := 2) (pc' := 45) (ls' := [some (.ref 0), some (.int ((v2 % (600 : Int32)) - (50 : Int32))), some (.int v5), none, none, none, none, none, none, none, none, none, none, none, none, none, none, none, none, none, none, none, none, none, none]) (st' := [.int (v11 % (10 : Int32)), .int ((v8 % (8 : Int32)) - (1 : Int32)), .int ((v2 % (600 : Int32)) - (50 : Int32)), .ref 1, .ref 1]) rfl ?_
  refine wpl_ctor0 (me' := cm0) (as := [.int ((v2 % (600 : Int32)) - (50 : Int32)), .int ((v8 % (8 : Int32)) - (1 : Int32)), .int (v11 % (10 : Int32))]) (r := [.ref 1]) rfl rfl rfl rfl rfl ⟨by decide, by decide, rfl, by decide, by decide⟩ (calV.mono h12 fun s13 h14 => ?_)
  refine wpl_sl (n := 3) (pc' := 51) (ls' := [some (.ref 0), some (.int ((v2 % (600 : Int32)) - (50 : Int32))), some (.int v5), some (.ref 1), none, none, none, none, none, none, none, none, none, none, none, none, none, none, none, none, none, none, none, none, none]) (st' := [.int (3 : Int32), .ref 0]) rfl ?_
  refine wpl_stat (m' := 2) (me' := lm2) (as := [.ref 0, .int (3 : Int32)]) (r := []) rfl rfl rfl rfl rfl ⟨(by first | decide | exact Nat.le_of_ble_eq_true rfl), (by first | decide | exact Nat.le_of_ble_eq_true rfl), (by first | decide | exact Nat.le_of_ble_eq_true rfl), (by first | decide | exact Nat.le_of_ble_eq_true rfl), rfl⟩ (lal_I (lalI.mono h14 fun v16 w15 hh => ?_))
  obtain ⟨s18, rfl, h17⟩ := hh
  refine wpl_sl (n := 1) (pc' := 56) (ls' := [some (.ref 0), some (.int ((v2 % (600 : Int32)) - (50 : Int32))), some (.int v5), some (.ref 1), some (.int v16), none, none, none, none, none, none, none, none, none, none, none, none, none, none, none, none, none, none, none, none]) (st' := []) rfl ?_
  exact wpl_lle (ls := [some (.ref 0), none, some (.int v5), some (.ref 1), some (.int v16), none, none, none, none, none, none, none, none, none, none, none, none, none, none, none, none, none, none, none, none]) ⟨rfl, rfl, rfl, rfl, trivial⟩ h17
theorem l0_56 (N : Nat) (sg : Nat → Int32) (x2 : Int32) (x4 : Int32)  (Q : Int32 → Wd → Prop) (h : wplI PP QQ (some (N, sg)) 0 lm0 77 [some (.ref 0), none, some (.int x2), some (.ref 1), some (.int x4), some (.int (0 : Int32)), some (.int (0 : Int32)), some (.int (0 : Int32)), some (.long (0 : Int64)), none, some (.long (0 : Int64)), none, some (.long (0 : Int64)), none, some (.int (3 : Int32)), none, none, none, none, none, none, none, none, none, none] [] (W1 s) Q) : wplI PP QQ (some (N, sg)) 0 lm0 56 [some (.ref 0), none, some (.int x2), some (.ref 1), some (.int x4), none, none, none, none, none, none, none, none, none, none, none, none, none, none, none, none, none, none, none, none] [] (W1 s) Q := by
  refine wpl_sl (n := 5) (pc' := 63) (ls' := [some (.ref 0), none, some (.int x2), some (.ref 1), some (.int x4), some (.int (0 : Int32)), some (.int (0 : Int32)), none, none, none, none, none, none, none, none, none, none, none, none, none, none, none, none, none, none]) (st' := [.int (0 : Int32)]) rfl ?_
  refine wpl_sl (n := 5) (pc' := 71) (ls' := [some (.ref 0), none, some (.int x2), some (.ref 1), some (.int x4), some (.int (0 : Int32)), some (.int (0 : Int32)), some (.int (0 : Int32)), some (.long (0 : Int64)), none, some (.long (0 : Int64)), none, none, none, none, none, none, none, none, none, none, none, none, none, none]) (st' := []) rfl ?_
  refine wpl_sl (n := 4) (pc' := 77) (ls' := [some (.ref 0), none, some (.int x2), some (.ref 1), some (.int x4), some (.int (0 : Int32)), some (.int (0 : Int32)), some (.int (0 : Int32)), some (.long (0 : Int64)), none, some (.long (0 : Int64)), none, some (.long (0 : Int64)), none, some (.int (3 : Int32)), none, none, none, none, none, none, none, none, none, none]) (st' := []) rfl ?_
  exact h
theorem l0_77 (N : Nat) (sg : Nat → Int32) (x2 : Int32) (x4 : Int32) (x5 : Int32) (x6 : Int32) (x7 : Int32) (x8 : Int64) (x10 : Int64) (x12 : Int64) (x14 : Int32)  (Q : Int32 → Wd → Prop) (h : ((x14 < (Int32.ofNat N)) → wplI PP QQ (some (N, sg)) 0 lm0 90 [some (.ref 0), none, some (.int x2), some (.ref 1), some (.int x4), some (.int x5), some (.int x6), some (.int x7), some (.long x8), none, some (.long x10), none, some (.long x12), none, some (.int x14), none, none, none, none, none, none, none, none, none, none] [] (W1 s) Q) ∧ (¬ (x14 < (Int32.ofNat N)) → ((x14 = (3 : Int32)) → wplI PP QQ (some (N, sg)) 0 lm0 90 [some (.ref 0), none, some (.int x2), some (.ref 1), some (.int x4), some (.int x5), some (.int x6), some (.int x7), some (.long x8), none, some (.long x10), none, some (.long x12), none, some (.int x14), none, none, none, none, none, none, none, none, none, none] [] (W1 s) Q) ∧ (¬ (x14 = (3 : Int32)) → Q (1 : Int32) (W1 s)))) : wplI PP QQ (some (N, sg)) 0 lm0 77 [some (.ref 0), none, some (.int x2), some (.ref 1), some (.int x4), some (.int x5), some (.int x6), some (.int x7), some (.long x8), none, some (.long x10), none, some (.long x12), none, some (.int x14), none, none, none, none, none, none, none, none, none, none] [] (W1 s) Q := by
  refine wpl_sl (n := 2) (pc' := 80) (ls' := [some (.ref 0), none, some (.int x2), some (.ref 1), some (.int x4), some (.int x5), some (.int x6), some (.int x7), some (.long x8), none, some (.long x10), none, some (.long x12), none, some (.int x14), none, none, none, none, none, none, none, none, none, none]) (st' := [.ref 0, .int x14]) rfl ?_
  refine wpl_len rfl ?_
  refine wpl_icmp (a := 90) (b := 84) rfl (by decide) rfl rfl (wpl_br (p := x14 < (Int32.ofNat N)) ⟨fun hc19 => ?_, fun hc19 => ?_⟩)
  · have h20 := h.1 hc19
    exact h20
  · have h21 := h.2 hc19
    refine wpl_sl (n := 2) (pc' := 87) (ls' := [some (.ref 0), none, some (.int x2), some (.ref 1), some (.int x4), some (.int x5), some (.int x6), some (.int x7), some (.long x8), none, some (.long x10), none, some (.long x12), none, some (.int x14), none, none, none, none, none, none, none, none, none, none]) (st' := [.int (3 : Int32), .int x14]) rfl ?_
    refine wpl_icmp (a := 829) (b := 90) rfl (by decide) rfl rfl (wpl_br (p := x14 = (3 : Int32)) ⟨fun hc22 => ?_, fun hc22 => ?_⟩)
    · have h23 := h21.1 hc22
      exact h23
    · have h24 := h21.2 hc22
      refine wpl_sl (n := 1) (pc' := 830) (ls' := [some (.ref 0), none, some (.int x2), some (.ref 1), some (.int x4), some (.int x5), some (.int x6), some (.int x7), some (.long x8), none, some (.long x10), none, some (.long x12), none, some (.int x14), none, none, none, none, none, none, none, none, none, none]) (st' := [.int (1 : Int32)]) rfl ?_
      exact wpl_ret rfl rfl rfl ⟨(1 : Int32), rfl, h24⟩
theorem l0_90 (N : Nat) (sg : Nat → Int32) (x2 : Int32) (x4 : Int32) (x5 : Int32) (x6 : Int32) (x7 : Int32) (x8 : Int64) (x10 : Int64) (x12 : Int64) (x14 : Int32)  (Q : Int32 → Wd → Prop) (h : (((3 : Int32) < x14) → inb N x14 ∧ (¬ ((x5 + (1 : Int32)) = (0 : Int32))) ∧ ∀ m30, m30 = (if (7 : Int32) < ((XT.ushr (sg (ix x14)) (4 : Int32)) % (x5 + (1 : Int32))) then (7 : Int32) else ((XT.ushr (sg (ix x14)) (4 : Int32)) % (x5 + (1 : Int32)))) → (((((sg (ix x14)) &&& (15 : Int32)) = (0 : Int32)) → calI PP 2 12 [.ref 0] s (fun v37 s36 => ∀ m39, m39 = (if v37 < (0 : Int32) then x5 else (v37 + (1 : Int32))) → (wplI PP QQ (some (N, sg)) 0 lm0 360 [some (.ref 0), none, some (.int x2), some (.ref 1), some (.int x4), some (.int m39), some (.int x6), some (.int x7), some (.long x8), none, some (.long x10), none, some (.long x12), none, some (.int x14), none, none, none, none, none, none, none, none, none, none] [] (W1 s36) Q))) ∧ (¬ (((sg (ix x14)) &&& (15 : Int32)) = (0 : Int32)) → ((((sg (ix x14)) &&& (15 : Int32)) = (1 : Int32)) → wplI PP QQ (some (N, sg)) 0 lm0 172 [some (.ref 0), none, some (.int x2), some (.ref 1), some (.int x4), some (.int x5), some (.int x6), some (.int x7), some (.long x8), none, some (.long x10), none, some (.long x12), none, some (.int x14), none, none, none, some (.int m30), none, none, none, none, none, none] [] (W1 s) Q) ∧ (¬ (((sg (ix x14)) &&& (15 : Int32)) = (1 : Int32)) → ((((sg (ix x14)) &&& (15 : Int32)) = (2 : Int32)) → wplI PP QQ (some (N, sg)) 0 lm0 172 [some (.ref 0), none, some (.int x2), some (.ref 1), some (.int x4), some (.int x5), some (.int x6), some (.int x7), some (.long x8), none, some (.long x10), none, some (.long x12), none, some (.int x14), none, none, none, some (.int m30), none, none, none, none, none, none] [] (W1 s) Q) ∧ (¬ (((sg (ix x14)) &&& (15 : Int32)) = (2 : Int32)) → ((((sg (ix x14)) &&& (15 : Int32)) = (3 : Int32)) → wplI PP QQ (some (N, sg)) 0 lm0 226 [some (.ref 0), none, some (.int x2), some (.ref 1), some (.int x4), some (.int x5), some (.int x6), some (.int x7), some (.long x8), none, some (.long x10), none, some (.long x12), none, some (.int x14), none, none, none, some (.int m30), none, none, none, none, none, none] [] (W1 s) Q) ∧ (¬ (((sg (ix x14)) &&& (15 : Int32)) = (3 : Int32)) → ((((sg (ix x14)) &&& (15 : Int32)) = (15 : Int32)) → wplI PP QQ (some (N, sg)) 0 lm0 226 [some (.ref 0), none, some (.int x2), some (.ref 1), some (.int x4), some (.int x5), some (.int x6), some (.int x7), some (.long x8), none, some (.long x10), none, some (.long x12), none, some (.int x14), none, none, none, some (.int m30), none, none, none, none, none, none] [] (W1 s) Q) ∧ (¬ (((sg (ix x14)) &&& (15 : Int32)) = (15 : Int32)) → ((((sg (ix x14)) &&& (15 : Int32)) < (4 : Int32)) → wplI PP QQ (some (N, sg)) 0 lm0 259 [some (.ref 0), none, some (.int x2), some (.ref 1), some (.int x4), some (.int x5), some (.int x6), some (.int x7), some (.long x8), none, some (.long x10), none, some (.long x12), none, some (.int x14), none, some (.int ((sg (ix x14)) &&& (15 : Int32))), some (.int (XT.ushr (sg (ix x14)) (4 : Int32))), some (.int m30), none, none, none, none, none, none] [] (W1 s) Q) ∧ (¬ (((sg (ix x14)) &&& (15 : Int32)) < (4 : Int32)) → (((6 : Int32) < ((sg (ix x14)) &&& (15 : Int32))) → wplI PP QQ (some (N, sg)) 0 lm0 259 [some (.ref 0), none, some (.int x2), some (.ref 1), some (.int x4), some (.int x5), some (.int x6), some (.int x7), some (.long x8), none, some (.long x10), none, some (.long x12), none, some (.int x14), none, some (.int ((sg (ix x14)) &&& (15 : Int32))), some (.int (XT.ushr (sg (ix x14)) (4 : Int32))), some (.int m30), none, none, none, none, none, none] [] (W1 s) Q) ∧ (¬ ((6 : Int32) < ((sg (ix x14)) &&& (15 : Int32))) → calI PP 5 12 [.ref 0, .int m30] s (fun v62 s61 => wplI PP QQ (some (N, sg)) 0 lm0 360 [some (.ref 0), none, some (.int x2), some (.ref 1), some (.int x4), some (.int x5), some (.int x6), some (.int x7), some (.long x8), none, some (.long x10), none, some (.long x12), none, some (.int x14), none, none, none, none, none, none, none, none, none, none] [] (W1 s61) Q)))))))))) ∧ (¬ ((3 : Int32) < x14) → wplI PP QQ (some (N, sg)) 0 lm0 360 [some (.ref 0), none, some (.int x2), some (.ref 1), some (.int x4), some (.int x5), some (.int x6), some (.int x7), some (.long x8), none, some (.long x10), none, some (.long x12), none, some (.int x14), none, none, none, none, none, none, none, none, none, none] [] (W1 s) Q)) : wplI PP QQ (some (N, sg)) 0 lm0 90 [some (.ref 0), none, some (.int x2), some (.ref 1), some (.int x4), some (.int x5), some (.int x6), some (.int x7), some (.long x8), none, some (.long x10), none, some (.long x12), none, some (.int x14), none, none, none, none, none, none, none, none, none, none] [] (W1 s) Q := by
  refine wpl_sl (n := 2) (pc' := 93) (ls' := [some (.ref 0), none, some (.int x2), some (.ref 1), some (.int x4), some (.int x5), some (.int x6), some (.int x7), some (.long x8), none, some (.long x10), none, some (.long x12), none, some (.int x14), none, none, none, none, none, none, none, none, none, none]) (st' := [.int (3 : Int32), .int x14]) rfl ?_
  refine wpl_icmp (a := 360) (b := 96) rfl (by decide) rfl rfl (wpl_br (p := (3 : Int32) < x14) ⟨fun hc25 => ?_, fun hc25 => ?_⟩)
  · have h26 := h.1 hc25
    refine wpl_sl (n := 2) (pc' := 99) (ls' := [some (.ref 0), none, some (.int x2), some (.ref 1), some (.int x4), some (.int x5), some (.int x6), some (.int x7), some (.long x8), none, some (.long x10), none, some (.long x12), none, some (.int x14), none, none, none, none, none, none, none, none, none, none]) (st' := [.int x14, .ref 0]) rfl ?_
    refine wpl_lda rfl h26.1 ?_
    have h28 := h26.2
    refine wpl_sl (n := 5) (pc' := 109) (ls' := [some (.ref 0), none, some (.int x2), some (.ref 1), some (.int x4), some (.int x5), some (.int x6), some (.int x7), some (.long x8), none, some (.long x10), none, some (.long x12), none, some (.int x14), some (.int (sg (ix x14))), some (.int ((sg (ix x14)) &&& (15 : Int32))), none, none, none, none, none, none, none, none]) (st' := []) rfl ?_
    refine wpl_sl (n := 5) (pc' := 117) (ls' := [some (.ref 0), none, some (.int x2), some (.ref 1), some (.int x4), some (.int x5), some (.int x6), some (.int x7), some (.long x8), none, some (.long x10), none, some (.long x12), none, some (.int x14), some (.int (sg (ix x14))), some (.int ((sg (ix x14)) &&& (15 : Int32))), some (.int (XT.ushr (sg (ix x14)) (4 : Int32))), none, none, none, none, none, none, none]) (st' := [.int (XT.ushr (sg (ix x14)) (4 : Int32))]) rfl ?_
    refine wpl_sl (n := 3) (pc' := 121) (ls' := [some (.ref 0), none, some (.int x2), some (.ref 1), some (.int x4), some (.int x5), some (.int x6), some (.int x7), some (.long x8), none, some (.long x10), none, some (.long x12), none, some (.int x14), some (.int (sg (ix x14))), some (.int ((sg (ix x14)) &&& (15 : Int32))), some (.int (XT.ushr (sg (ix x14)) (4 : Int32))), none, none, none, none, none, none, none]) (st' := [.int (x5 + (1 : Int32)), .int (XT.ushr (sg (ix x14)) (4 : Int32))]) rfl ?_
    refine wpl_irem rfl h28.1 ?_
    have h29 := h28.2
    refine wpl_sl (n := 3) (pc' := 128) (ls' := [some (.ref 0), none, some (.int x2), some (.ref 1), some (.int x4), some (.int x5), some (.int x6), some (.int x7), some (.long x8), none, some (.long x10), none, some (.long x12), none, some (.int x14), some (.int (sg (ix x14))), some (.int ((sg (ix x14)) &&& (15 : Int32))), some (.int (XT.ushr (sg (ix x14)) (4 : Int32))), some (.int ((XT.ushr (sg (ix x14)) (4 : Int32)) % (x5 + (1 : Int32)))), none, none, none, none, none, none]) (st' := [.int (7 : Int32), .int ((XT.ushr (sg (ix x14)) (4 : Int32)) % (x5 + (1 : Int32)))]) rfl ?_
    have hm31 : ∀ m30, m30 = (if (7 : Int32) < ((XT.ushr (sg (ix x14)) (4 : Int32)) % (x5 + (1 : Int32))) then (7 : Int32) else ((XT.ushr (sg (ix x14)) (4 : Int32)) % (x5 + (1 : Int32)))) → wplI PP QQ (some (N, sg)) 0 lm0 135 [some (.ref 0), none, some (.int x2), some (.ref 1), some (.int x4), some (.int x5), some (.int x6), some (.int x7), some (.long x8), none, some (.long x10), none, some (.long x12), none, some (.int x14), some (.int (sg (ix x14))), some (.int ((sg (ix x14)) &&& (15 : Int32))), some (.int (XT.ushr (sg (ix x14)) (4 : Int32))), some (.int m30), none, none, none, none, none, none] [] (W1 s) Q := by
      intro m30 em30
      have h32 := h29 m30 em30
      refine wpl_sl (n := 1) (pc' := 137) (ls' := [some (.ref 0), none, some (.int x2), some (.ref 1), some (.int x4), some (.int x5), some (.int x6), some (.int x7), some (.long x8), none, some (.long x10), none, some (.long x12), none, some (.int x14), some (.int (sg (ix x14))), some (.int ((sg (ix x14)) &&& (15 : Int32))), some (.int (XT.ushr (sg (ix x14)) (4 : Int32))), some (.int m30), none, none, none, none, none, none]) (st' := [.int ((sg (ix x14)) &&& (15 : Int32))]) rfl ?_
      refine wpl_if (a := 160) (b := 140) rfl (by decide) rfl rfl (wpl_br (p := ((sg (ix x14)) &&& (15 : Int32)) = (0 : Int32)) ⟨fun hc33 => ?_, fun hc33 => ?_⟩)
      · have h34 := h32.1 hc33
        refine wpl_sl (n := 1) (pc' := 141) (ls' := [some (.ref 0), none, some (.int x2), some (.ref 1), some (.int x4), some (.int x5), some (.int x6), some (.int x7), some (.long x8), none, some (.long x10), none, some (.long x12), none, some (.int x14), some (.int (sg (ix x14))), some (.int ((sg (ix x14)) &&& (15 : Int32))), some (.int (XT.ushr (sg (ix x14)) (4 : Int32))), some (.int m30), none, none, none, none, none, none]) (st' := [.ref 1]) rfl ?_
        refine wpl_v1 (m' := 2) (me' := cm2) (as := []) (r := []) rfl rfl rfl rfl rfl ⟨by decide, (by first | decide | exact Nat.le_of_ble_eq_true rfl), (by first | decide | exact Nat.le_of_ble_eq_true rfl), rfl⟩ (cal_I (calI.mono h34 fun v37 s36 h38 => ?_))
        refine wpl_sl (n := 2) (pc' := 148) (ls' := [some (.ref 0), none, some (.int x2), some (.ref 1), some (.int x4), some (.int x5), some (.int x6), some (.int x7), some (.long x8), none, some (.long x10), none, some (.long x12), none, some (.int x14), some (.int (sg (ix x14))), some (.int ((sg (ix x14)) &&& (15 : Int32))), some (.int (XT.ushr (sg (ix x14)) (4 : Int32))), some (.int m30), some (.int v37), none, none, none, none, none]) (st' := [.int v37]) rfl ?_
        have hm40 : ∀ m39, m39 = (if v37 < (0 : Int32) then x5 else (v37 + (1 : Int32))) → wplI PP QQ (some (N, sg)) 0 lm0 157 [some (.ref 0), none, some (.int x2), some (.ref 1), some (.int x4), some (.int m39), some (.int x6), some (.int x7), some (.long x8), none, some (.long x10), none, some (.long x12), none, some (.int x14), some (.int (sg (ix x14))), some (.int ((sg (ix x14)) &&& (15 : Int32))), some (.int (XT.ushr (sg (ix x14)) (4 : Int32))), some (.int m30), some (.int v37), none, none, none, none, none] [] (W1 s36) Q := by
          intro m39 em39
          have h41 := h38 m39 em39
          refine wpl_sl (n := 1) (pc' := 360) (ls' := [some (.ref 0), none, some (.int x2), some (.ref 1), some (.int x4), some (.int m39), some (.int x6), some (.int x7), some (.long x8), none, some (.long x10), none, some (.long x12), none, some (.int x14), some (.int (sg (ix x14))), some (.int ((sg (ix x14)) &&& (15 : Int32))), some (.int (XT.ushr (sg (ix x14)) (4 : Int32))), some (.int m30), some (.int v37), none, none, none, none, none]) (st' := []) rfl ?_
          exact wpl_lle (ls := [some (.ref 0), none, some (.int x2), some (.ref 1), some (.int x4), some (.int m39), some (.int x6), some (.int x7), some (.long x8), none, some (.long x10), none, some (.long x12), none, some (.int x14), none, none, none, none, none, none, none, none, none, none]) ⟨rfl, rfl, rfl, rfl, rfl, rfl, rfl, rfl, rfl, rfl, rfl, trivial⟩ h41
        refine wpl_if (a := 157) (b := 151) rfl (by decide) rfl rfl (wpl_br (p := v37 < (0 : Int32)) ⟨fun hc42 => ?_, fun hc42 => ?_⟩)
        · first | exact hm40 _ (by simp only [if_pos hc42]) | exact wpl_lle (by repeat (first | exact trivial | refine ⟨rfl, ?_⟩)) (hm40 _ (by simp only [if_pos hc42]))
        · refine wpl_sl (n := 4) (pc' := 157) (ls' := [some (.ref 0), none, some (.int x2), some (.ref 1), some (.int x4), some (.int (v37 + (1 : Int32))), some (.int x6), some (.int x7), some (.long x8), none, some (.long x10), none, some (.long x12), none, some (.int x14), some (.int (sg (ix x14))), some (.int ((sg (ix x14)) &&& (15 : Int32))), some (.int (XT.ushr (sg (ix x14)) (4 : Int32))), some (.int m30), some (.int v37), none, none, none, none, none]) (st' := []) rfl ?_
          first | exact hm40 _ (by simp only [if_neg hc42]) | exact wpl_lle (by repeat (first | exact trivial | refine ⟨rfl, ?_⟩)) (hm40 _ (by simp only [if_neg hc42]))
      · have h35 := h32.2 hc33
        refine wpl_sl (n := 2) (pc' := 163) (ls' := [some (.ref 0), none, some (.int x2), some (.ref 1), some (.int x4), some (.int x5), some (.int x6), some (.int x7), some (.long x8), none, some (.long x10), none, some (.long x12), none, some (.int x14), some (.int (sg (ix x14))), some (.int ((sg (ix x14)) &&& (15 : Int32))), some (.int (XT.ushr (sg (ix x14)) (4 : Int32))), some (.int m30), none, none, none, none, none, none]) (st' := [.int (1 : Int32), .int ((sg (ix x14)) &&& (15 : Int32))]) rfl ?_
        refine wpl_icmp (a := 172) (b := 166) rfl (by decide) rfl rfl (wpl_br (p := ((sg (ix x14)) &&& (15 : Int32)) = (1 : Int32)) ⟨fun hc43 => ?_, fun hc43 => ?_⟩)
        · have h44 := h35.1 hc43
          exact wpl_lle (ls := [some (.ref 0), none, some (.int x2), some (.ref 1), some (.int x4), some (.int x5), some (.int x6), some (.int x7), some (.long x8), none, some (.long x10), none, some (.long x12), none, some (.int x14), none, none, none, some (.int m30), none, none, none, none, none, none]) ⟨rfl, rfl, rfl, rfl, rfl, rfl, rfl, rfl, rfl, rfl, rfl, rfl, trivial⟩ h44
        · have h45 := h35.2 hc43
          refine wpl_sl (n := 2) (pc' := 169) (ls' := [some (.ref 0), none, some (.int x2), some (.ref 1), some (.int x4), some (.int x5), some (.int x6), some (.int x7), some (.long x8), none, some (.long x10), none, some (.long x12), none, some (.int x14), some (.int (sg (ix x14))), some (.int ((sg (ix x14)) &&& (15 : Int32))), some (.int (XT.ushr (sg (ix x14)) (4 : Int32))), some (.int m30), none, none, none, none, none, none]) (st' := [.int (2 : Int32), .int ((sg (ix x14)) &&& (15 : Int32))]) rfl ?_
          refine wpl_icmp (a := 213) (b := 172) rfl (by decide) rfl rfl (wpl_br (p := ((sg (ix x14)) &&& (15 : Int32)) = (2 : Int32)) ⟨fun hc46 => ?_, fun hc46 => ?_⟩)
          · have h47 := h45.1 hc46
            exact wpl_lle (ls := [some (.ref 0), none, some (.int x2), some (.ref 1), some (.int x4), some (.int x5), some (.int x6), some (.int x7), some (.long x8), none, some (.long x10), none, some (.long x12), none, some (.int x14), none, none, none, some (.int m30), none, none, none, none, none, none]) ⟨rfl, rfl, rfl, rfl, rfl, rfl, rfl, rfl, rfl, rfl, rfl, rfl, trivial⟩ h47
          · have h48 := h45.2 hc46
            refine wpl_sl (n := 2) (pc' := 216) (ls' := [some (.ref 0), none, some (.int x2), some (.ref 1), some (.int x4), some (.int x5), some (.int x6), some (.int x7), some (.long x8), none, some (.long x10), none, some (.long x12), none, some (.int x14), some (.int (sg (ix x14))), some (.int ((sg (ix x14)) &&& (15 : Int32))), some (.int (XT.ushr (sg (ix x14)) (4 : Int32))), some (.int m30), none, none, none, none, none, none]) (st' := [.int (3 : Int32), .int ((sg (ix x14)) &&& (15 : Int32))]) rfl ?_
            refine wpl_icmp (a := 226) (b := 219) rfl (by decide) rfl rfl (wpl_br (p := ((sg (ix x14)) &&& (15 : Int32)) = (3 : Int32)) ⟨fun hc49 => ?_, fun hc49 => ?_⟩)
            · have h50 := h48.1 hc49
              exact wpl_lle (ls := [some (.ref 0), none, some (.int x2), some (.ref 1), some (.int x4), some (.int x5), some (.int x6), some (.int x7), some (.long x8), none, some (.long x10), none, some (.long x12), none, some (.int x14), none, none, none, some (.int m30), none, none, none, none, none, none]) ⟨rfl, rfl, rfl, rfl, rfl, rfl, rfl, rfl, rfl, rfl, rfl, rfl, trivial⟩ h50
            · have h51 := h48.2 hc49
              refine wpl_sl (n := 2) (pc' := 223) (ls' := [some (.ref 0), none, some (.int x2), some (.ref 1), some (.int x4), some (.int x5), some (.int x6), some (.int x7), some (.long x8), none, some (.long x10), none, some (.long x12), none, some (.int x14), some (.int (sg (ix x14))), some (.int ((sg (ix x14)) &&& (15 : Int32))), some (.int (XT.ushr (sg (ix x14)) (4 : Int32))), some (.int m30), none, none, none, none, none, none]) (st' := [.int (15 : Int32), .int ((sg (ix x14)) &&& (15 : Int32))]) rfl ?_
              refine wpl_icmp (a := 236) (b := 226) rfl (by decide) rfl rfl (wpl_br (p := ((sg (ix x14)) &&& (15 : Int32)) = (15 : Int32)) ⟨fun hc52 => ?_, fun hc52 => ?_⟩)
              · have h53 := h51.1 hc52
                exact wpl_lle (ls := [some (.ref 0), none, some (.int x2), some (.ref 1), some (.int x4), some (.int x5), some (.int x6), some (.int x7), some (.long x8), none, some (.long x10), none, some (.long x12), none, some (.int x14), none, none, none, some (.int m30), none, none, none, none, none, none]) ⟨rfl, rfl, rfl, rfl, rfl, rfl, rfl, rfl, rfl, rfl, rfl, rfl, trivial⟩ h53
              · have h54 := h51.2 hc52
                refine wpl_sl (n := 2) (pc' := 239) (ls' := [some (.ref 0), none, some (.int x2), some (.ref 1), some (.int x4), some (.int x5), some (.int x6), some (.int x7), some (.long x8), none, some (.long x10), none, some (.long x12), none, some (.int x14), some (.int (sg (ix x14))), some (.int ((sg (ix x14)) &&& (15 : Int32))), some (.int (XT.ushr (sg (ix x14)) (4 : Int32))), some (.int m30), none, none, none, none, none, none]) (st' := [.int (4 : Int32), .int ((sg (ix x14)) &&& (15 : Int32))]) rfl ?_
                refine wpl_icmp (a := 259) (b := 242) rfl (by decide) rfl rfl (wpl_br (p := ((sg (ix x14)) &&& (15 : Int32)) < (4 : Int32)) ⟨fun hc55 => ?_, fun hc55 => ?_⟩)
                · have h56 := h54.1 hc55
                  exact wpl_lle (ls := [some (.ref 0), none, some (.int x2), some (.ref 1), some (.int x4), some (.int x5), some (.int x6), some (.int x7), some (.long x8), none, some (.long x10), none, some (.long x12), none, some (.int x14), none, some (.int ((sg (ix x14)) &&& (15 : Int32))), some (.int (XT.ushr (sg (ix x14)) (4 : Int32))), some (.int m30), none, none, none, none, none, none]) ⟨rfl, rfl, rfl, rfl, rfl, rfl, rfl, rfl, rfl, rfl, rfl, rfl, rfl, rfl, trivial⟩ h56
                · have h57 := h54.2 hc55
                  refine wpl_sl (n := 2) (pc' := 246) (ls' := [some (.ref 0), none, some (.int x2), some (.ref 1), some (.int x4), some (.int x5), some (.int x6), some (.int x7), some (.long x8), none, some (.long x10), none, some (.long x12), none, some (.int x14), some (.int (sg (ix x14))), some (.int ((sg (ix x14)) &&& (15 : Int32))), some (.int (XT.ushr (sg (ix x14)) (4 : Int32))), some (.int m30), none, none, none, none, none, none]) (st' := [.int (6 : Int32), .int ((sg (ix x14)) &&& (15 : Int32))]) rfl ?_
                  refine wpl_icmp (a := 259) (b := 249) rfl (by decide) rfl rfl (wpl_br (p := (6 : Int32) < ((sg (ix x14)) &&& (15 : Int32))) ⟨fun hc58 => ?_, fun hc58 => ?_⟩)
                  · have h59 := h57.1 hc58
                    exact wpl_lle (ls := [some (.ref 0), none, some (.int x2), some (.ref 1), some (.int x4), some (.int x5), some (.int x6), some (.int x7), some (.long x8), none, some (.long x10), none, some (.long x12), none, some (.int x14), none, some (.int ((sg (ix x14)) &&& (15 : Int32))), some (.int (XT.ushr (sg (ix x14)) (4 : Int32))), some (.int m30), none, none, none, none, none, none]) ⟨rfl, rfl, rfl, rfl, rfl, rfl, rfl, rfl, rfl, rfl, rfl, rfl, rfl, rfl, trivial⟩ h59
                  · have h60 := h57.2 hc58
                    refine wpl_sl (n := 2) (pc' := 252) (ls' := [some (.ref 0), none, some (.int x2), some (.ref 1), some (.int x4), some (.int x5), some (.int x6), some (.int x7), some (.long x8), none, some (.long x10), none, some (.long x12), none, some (.int x14), some (.int (sg (ix x14))), some (.int ((sg (ix x14)) &&& (15 : Int32))), some (.int (XT.ushr (sg (ix x14)) (4 : Int32))), some (.int m30), none, none, none, none, none, none]) (st' := [.int m30, .ref 1]) rfl ?_
                    refine wpl_v1 (m' := 5) (me' := cm5) (as := [.int m30]) (r := []) rfl rfl rfl rfl rfl ⟨by decide, (by first | decide | exact Nat.le_of_ble_eq_true rfl), (by first | decide | exact Nat.le_of_ble_eq_true rfl), rfl⟩ (cal_I (calI.mono h60 fun v62 s61 h63 => ?_))
                    refine wpl_sl (n := 2) (pc' := 360) (ls' := [some (.ref 0), none, some (.int x2), some (.ref 1), some (.int x4), some (.int x5), some (.int x6), some (.int x7), some (.long x8), none, some (.long x10), none, some (.long x12), none, some (.int x14), some (.int (sg (ix x14))), some (.int ((sg (ix x14)) &&& (15 : Int32))), some (.int (XT.ushr (sg (ix x14)) (4 : Int32))), some (.int m30), none, none, none, none, none, none]) (st' := []) rfl ?_
                    exact wpl_lle (ls := [some (.ref 0), none, some (.int x2), some (.ref 1), some (.int x4), some (.int x5), some (.int x6), some (.int x7), some (.long x8), none, some (.long x10), none, some (.long x12), none, some (.int x14), none, none, none, none, none, none, none, none, none, none]) ⟨rfl, rfl, rfl, rfl, rfl, rfl, rfl, rfl, rfl, rfl, rfl, trivial⟩ h63
    refine wpl_icmp (a := 135) (b := 131) rfl (by decide) rfl rfl (wpl_br (p := (7 : Int32) < ((XT.ushr (sg (ix x14)) (4 : Int32)) % (x5 + (1 : Int32)))) ⟨fun hc64 => ?_, fun hc64 => ?_⟩)
    · refine wpl_sl (n := 2) (pc' := 135) (ls' := [some (.ref 0), none, some (.int x2), some (.ref 1), some (.int x4), some (.int x5), some (.int x6), some (.int x7), some (.long x8), none, some (.long x10), none, some (.long x12), none, some (.int x14), some (.int (sg (ix x14))), some (.int ((sg (ix x14)) &&& (15 : Int32))), some (.int (XT.ushr (sg (ix x14)) (4 : Int32))), some (.int (7 : Int32)), none, none, none, none, none, none]) (st' := []) rfl ?_
      first | exact hm31 _ (by simp only [if_pos hc64]) | exact wpl_lle (by repeat (first | exact trivial | refine ⟨rfl, ?_⟩)) (hm31 _ (by simp only [if_pos hc64]))
    · first | exact hm31 _ (by simp only [if_neg hc64]) | exact wpl_lle (by repeat (first | exact trivial | refine ⟨rfl, ?_⟩)) (hm31 _ (by simp only [if_neg hc64]))
  · have h27 := h.2 hc25
    exact h27
theorem l0_360 (N : Nat) (sg : Nat → Int32) (x2 : Int32) (x4 : Int32) (x5 : Int32) (x6 : Int32) (x7 : Int32) (x8 : Int64) (x10 : Int64) (x12 : Int64) (x14 : Int32)  (Q : Int32 → Wd → Prop) (h : wplI PP QQ (some (N, sg)) 0 lm0 363 [some (.ref 0), none, some (.int x2), some (.ref 1), some (.int x4), some (.int x5), some (.int x6), some (.int x7), some (.long x8), none, some (.long x10), none, some (.long x12), none, some (.int x14), some (.int (0 : Int32)), none, none, none, none, none, none, none, none, none] [] (W1 s) Q) : wplI PP QQ (some (N, sg)) 0 lm0 360 [some (.ref 0), none, some (.int x2), some (.ref 1), some (.int x4), some (.int x5), some (.int x6), some (.int x7), some (.long x8), none, some (.long x10), none, some (.long x12), none, some (.int x14), none, none, none, none, none, none, none, none, none, none] [] (W1 s) Q := by
  refine wpl_sl (n := 2) (pc' := 363) (ls' := [some (.ref 0), none, some (.int x2), some (.ref 1), some (.int x4), some (.int x5), some (.int x6), some (.int x7), some (.long x8), none, some (.long x10), none, some (.long x12), none, some (.int x14), some (.int (0 : Int32)), none, none, none, none, none, none, none, none, none]) (st' := []) rfl ?_
  exact h
theorem l0_172 (N : Nat) (sg : Nat → Int32) (x2 : Int32) (x4 : Int32) (x5 : Int32) (x6 : Int32) (x7 : Int32) (x8 : Int64) (x10 : Int64) (x12 : Int64) (x14 : Int32) (x18 : Int32)  (Q : Int32 → Wd → Prop) (h : calI PP 12 12 [.ref 0, .int x18] s (fun v66 s65 => ((v66 < (0 : Int32)) → wplI PP QQ (some (N, sg)) 0 lm0 210 [some (.ref 0), none, some (.int x2), some (.ref 1), some (.int x4), some (.int x5), some (.int x6), some (.int x7), some (.long x8), none, some (.long x10), none, some (.long x12), none, some (.int x14), none, none, none, none, none, none, none, none, none, none] [] (W1 s65) Q) ∧ (¬ (v66 < (0 : Int32)) → lalI PP QQ (some (N, sg)) 5 [.int x4, .int x18, .int v66] (W1 s65) (fun v72 w71 => ∃ s74, w71 = W1 s74 ∧ (lalI PP QQ (some (N, sg)) 6 [.int x4, .int x18, .int v66] (W1 s74) (fun v76 w75 => ∃ s78, w75 = W1 s78 ∧ (calI PP 3 12 [.ref 0, .int x18, .int v72, .int v76] s78 (fun v80 s79 => wplI PP QQ (some (N, sg)) 0 lm0 210 [some (.ref 0), none, some (.int x2), some (.ref 1), some (.int x4), some (.int x5), some (.int x6), some (.int x7), some (.long x8), none, some (.long x10), none, some (.long x12), none, some (.int x14), none, none, none, none, none, none, none, none, none, none] [] (W1 s79) Q)))))))) : wplI PP QQ (some (N, sg)) 0 lm0 172 [some (.ref 0), none, some (.int x2), some (.ref 1), some (.int x4), some (.int x5), some (.int x6), some (.int x7), some (.long x8), none, some (.long x10), none, some (.long x12), none, some (.int x14), none, none, none, some (.int x18), none, none, none, none, none, none] [] (W1 s) Q := by
  refine wpl_sl (n := 2) (pc' := 175) (ls' := [some (.ref 0), none, some (.int x2), some (.ref 1), some (.int x4), some (.int x5), some (.int x6), some (.int x7), some (.long x8), none, some (.long x10), none, some (.long x12), none, some (.int x14), none, none, none, some (.int x18), none, none, none, none, none, none]) (st' := [.int x18, .ref 1]) rfl ?_
  refine wpl_v1 (m' := 12) (me' := cm12) (as := [.int x18]) (r := []) rfl rfl rfl rfl rfl ⟨by decide, (by first | decide | exact Nat.le_of_ble_eq_true rfl), (by first | decide | exact Nat.le_of_ble_eq_true rfl), rfl⟩ (cal_I (calI.mono h fun v66 s65 h67 => ?_))
  refine wpl_sl (n := 2) (pc' := 182) (ls' := [some (.ref 0), none, some (.int x2), some (.ref 1), some (.int x4), some (.int x5), some (.int x6), some (.int x7), some (.long x8), none, some (.long x10), none, some (.long x12), none, some (.int x14), none, none, none, some (.int x18), some (.int v66), none, none, none, none, none]) (st' := [.int v66]) rfl ?_
  refine wpl_if (a := 210) (b := 185) rfl (by decide) rfl rfl (wpl_br (p := v66 < (0 : Int32)) ⟨fun hc68 => ?_, fun hc68 => ?_⟩)
  · have h69 := h67.1 hc68
    exact wpl_lle (ls := [some (.ref 0), none, some (.int x2), some (.ref 1), some (.int x4), some (.int x5), some (.int x6), some (.int x7), some (.long x8), none, some (.long x10), none, some (.long x12), none, some (.int x14), none, none, none, none, none, none, none, none, none, none]) ⟨rfl, rfl, rfl, rfl, rfl, rfl, rfl, rfl, rfl, rfl, rfl, trivial⟩ h69
  · have h70 := h67.2 hc68
    refine wpl_sl (n := 5) (pc' := 194) (ls' := [some (.ref 0), none, some (.int x2), some (.ref 1), some (.int x4), some (.int x5), some (.int x6), some (.int x7), some (.long x8), none, some (.long x10), none, some (.long x12), none, some (.int x14), none, none, none, some (.int x18), some (.int v66), none, none, none, none, none]) (st' := [.int v66, .int x18, .int x4, .int x18, .ref 1]) rfl ?_
    refine wpl_stat (m' := 5) (me' := lm5) (as := [.int x4, .int x18, .int v66]) (r := [.int x18, .ref 1]) rfl rfl rfl rfl rfl ⟨(by first | decide | exact Nat.le_of_ble_eq_true rfl), (by first | decide | exact Nat.le_of_ble_eq_true rfl), (by first | decide | exact Nat.le_of_ble_eq_true rfl), (by first | decide | exact Nat.le_of_ble_eq_true rfl), rfl⟩ (lal_I (lalI.mono h70 fun v72 w71 hh => ?_))
    obtain ⟨s74, rfl, h73⟩ := hh
    refine wpl_sl (n := 3) (pc' := 203) (ls' := [some (.ref 0), none, some (.int x2), some (.ref 1), some (.int x4), some (.int x5), some (.int x6), some (.int x7), some (.long x8), none, some (.long x10), none, some (.long x12), none, some (.int x14), none, none, none, some (.int x18), some (.int v66), none, none, none, none, none]) (st' := [.int v66, .int x18, .int x4, .int v72, .int x18, .ref 1]) rfl ?_
    refine wpl_stat (m' := 6) (me' := lm6) (as := [.int x4, .int x18, .int v66]) (r := [.int v72, .int x18, .ref 1]) rfl rfl rfl rfl rfl ⟨(by first | decide | exact Nat.le_of_ble_eq_true rfl), (by first | decide | exact Nat.le_of_ble_eq_true rfl), (by first | decide | exact Nat.le_of_ble_eq_true rfl), (by first | decide | exact Nat.le_of_ble_eq_true rfl), rfl⟩ (lal_I (lalI.mono h73 fun v76 w75 hh => ?_))
    obtain ⟨s78, rfl, h77⟩ := hh
    refine wpl_v1 (m' := 3) (me' := cm3) (as := [.int x18, .int v72, .int v76]) (r := []) rfl rfl rfl rfl rfl ⟨by decide, (by first | decide | exact Nat.le_of_ble_eq_true rfl), (by first | decide | exact Nat.le_of_ble_eq_true rfl), rfl⟩ (cal_I (calI.mono h77 fun v80 s79 h81 => ?_))
    refine wpl_sl (n := 1) (pc' := 210) (ls' := [some (.ref 0), none, some (.int x2), some (.ref 1), some (.int x4), some (.int x5), some (.int x6), some (.int x7), some (.long x8), none, some (.long x10), none, some (.long x12), none, some (.int x14), none, none, none, some (.int x18), some (.int v66), none, none, none, none, none]) (st' := []) rfl ?_
    exact wpl_lle (ls := [some (.ref 0), none, some (.int x2), some (.ref 1), some (.int x4), some (.int x5), some (.int x6), some (.int x7), some (.long x8), none, some (.long x10), none, some (.long x12), none, some (.int x14), none, none, none, none, none, none, none, none, none, none]) ⟨rfl, rfl, rfl, rfl, rfl, rfl, rfl, rfl, rfl, rfl, rfl, trivial⟩ h81
theorem l0_226 (N : Nat) (sg : Nat → Int32) (x2 : Int32) (x4 : Int32) (x5 : Int32) (x6 : Int32) (x7 : Int32) (x8 : Int64) (x10 : Int64) (x12 : Int64) (x14 : Int32) (x18 : Int32)  (Q : Int32 → Wd → Prop) (h : calI PP 4 12 [.ref 0, .int x18] s (fun v83 s82 => wplI PP QQ (some (N, sg)) 0 lm0 360 [some (.ref 0), none, some (.int x2), some (.ref 1), some (.int x4), some (.int x5), some (.int x6), some (.int x7), some (.long x8), none, some (.long x10), none, some (.long x12), none, some (.int x14), none, none, none, none, none, none, none, none, none, none] [] (W1 s82) Q)) : wplI PP QQ (some (N, sg)) 0 lm0 226 [some (.ref 0), none, some (.int x2), some (.ref 1), some (.int x4), some (.int x5), some (.int x6), some (.int x7), some (.long x8), none, some (.long x10), none, some (.long x12), none, some (.int x14), none, none, none, some (.int x18), none, none, none, none, none, none] [] (W1 s) Q := by
  refine wpl_sl (n := 2) (pc' := 229) (ls' := [some (.ref 0), none, some (.int x2), some (.ref 1), some (.int x4), some (.int x5), some (.int x6), some (.int x7), some (.long x8), none, some (.long x10), none, some (.long x12), none, some (.int x14), none, none, none, some (.int x18), none, none, none, none, none, none]) (st' := [.int x18, .ref 1]) rfl ?_
  refine wpl_v1 (m' := 4) (me' := cm4) (as := [.int x18]) (r := []) rfl rfl rfl rfl rfl ⟨by decide, (by first | decide | exact Nat.le_of_ble_eq_true rfl), (by first | decide | exact Nat.le_of_ble_eq_true rfl), rfl⟩ (cal_I (calI.mono h fun v83 s82 h84 => ?_))
  refine wpl_sl (n := 2) (pc' := 360) (ls' := [some (.ref 0), none, some (.int x2), some (.ref 1), some (.int x4), some (.int x5), some (.int x6), some (.int x7), some (.long x8), none, some (.long x10), none, some (.long x12), none, some (.int x14), none, none, none, some (.int x18), none, none, none, none, none, none]) (st' := []) rfl ?_
  exact wpl_lle (ls := [some (.ref 0), none, some (.int x2), some (.ref 1), some (.int x4), some (.int x5), some (.int x6), some (.int x7), some (.long x8), none, some (.long x10), none, some (.long x12), none, some (.int x14), none, none, none, none, none, none, none, none, none, none]) ⟨rfl, rfl, rfl, rfl, rfl, rfl, rfl, rfl, rfl, rfl, rfl, trivial⟩ h84
theorem l0_259 (N : Nat) (sg : Nat → Int32) (x2 : Int32) (x4 : Int32) (x5 : Int32) (x6 : Int32) (x7 : Int32) (x8 : Int64) (x10 : Int64) (x12 : Int64) (x14 : Int32) (x16 : Int32) (x17 : Int32) (x18 : Int32)  (Q : Int32 → Wd → Prop) (h : ((x16 < (7 : Int32)) → wplI PP QQ (some (N, sg)) 0 lm0 283 [some (.ref 0), none, some (.int x2), some (.ref 1), some (.int x4), some (.int x5), some (.int x6), some (.int x7), some (.long x8), none, some (.long x10), none, some (.long x12), none, some (.int x14), none, some (.int x16), some (.int x17), some (.int x18), none, none, none, none, none, none] [] (W1 s) Q) ∧ (¬ (x16 < (7 : Int32)) → (((9 : Int32) < x16) → wplI PP QQ (some (N, sg)) 0 lm0 283 [some (.ref 0), none, some (.int x2), some (.ref 1), some (.int x4), some (.int x5), some (.int x6), some (.int x7), some (.long x8), none, some (.long x10), none, some (.long x12), none, some (.int x14), none, some (.int x16), some (.int x17), some (.int x18), none, none, none, none, none, none] [] (W1 s) Q) ∧ (¬ ((9 : Int32) < x16) → calI PP 7 12 [.ref 0, .int x18] s (fun v92 s91 => wplI PP QQ (some (N, sg)) 0 lm0 360 [some (.ref 0), none, some (.int x2), some (.ref 1), some (.int x4), some (.int x5), some (.int x6), some (.int x7), some (.long x8), none, some (.long x10), none, some (.long x12), none, some (.int x14), none, none, none, none, none, none, none, none, none, none] [] (W1 s91) Q)))) : wplI PP QQ (some (N, sg)) 0 lm0 259 [some (.ref 0), none, some (.int x2), some (.ref 1), some (.int x4), some (.int x5), some (.int x6), some (.int x7), some (.long x8), none, some (.long x10), none, some (.long x12), none, some (.int x14), none, some (.int x16), some (.int x17), some (.int x18), none, none, none, none, none, none] [] (W1 s) Q := by
  refine wpl_sl (n := 2) (pc' := 263) (ls' := [some (.ref 0), none, some (.int x2), some (.ref 1), some (.int x4), some (.int x5), some (.int x6), some (.int x7), some (.long x8), none, some (.long x10), none, some (.long x12), none, some (.int x14), none, some (.int x16), some (.int x17), some (.int x18), none, none, none, none, none, none]) (st' := [.int (7 : Int32), .int x16]) rfl ?_
  refine wpl_icmp (a := 283) (b := 266) rfl (by decide) rfl rfl (wpl_br (p := x16 < (7 : Int32)) ⟨fun hc85 => ?_, fun hc85 => ?_⟩)
  · have h86 := h.1 hc85
    exact h86
  · have h87 := h.2 hc85
    refine wpl_sl (n := 2) (pc' := 270) (ls' := [some (.ref 0), none, some (.int x2), some (.ref 1), some (.int x4), some (.int x5), some (.int x6), some (.int x7), some (.long x8), none, some (.long x10), none, some (.long x12), none, some (.int x14), none, some (.int x16), some (.int x17), some (.int x18), none, none, none, none, none, none]) (st' := [.int (9 : Int32), .int x16]) rfl ?_
    refine wpl_icmp (a := 283) (b := 273) rfl (by decide) rfl rfl (wpl_br (p := (9 : Int32) < x16) ⟨fun hc88 => ?_, fun hc88 => ?_⟩)
    · have h89 := h87.1 hc88
      exact h89
    · have h90 := h87.2 hc88
      refine wpl_sl (n := 2) (pc' := 276) (ls' := [some (.ref 0), none, some (.int x2), some (.ref 1), some (.int x4), some (.int x5), some (.int x6), some (.int x7), some (.long x8), none, some (.long x10), none, some (.long x12), none, some (.int x14), none, some (.int x16), some (.int x17), some (.int x18), none, none, none, none, none, none]) (st' := [.int x18, .ref 1]) rfl ?_
      refine wpl_v1 (m' := 7) (me' := cm7) (as := [.int x18]) (r := []) rfl rfl rfl rfl rfl ⟨by decide, (by first | decide | exact Nat.le_of_ble_eq_true rfl), (by first | decide | exact Nat.le_of_ble_eq_true rfl), rfl⟩ (cal_I (calI.mono h90 fun v92 s91 h93 => ?_))
      refine wpl_sl (n := 2) (pc' := 360) (ls' := [some (.ref 0), none, some (.int x2), some (.ref 1), some (.int x4), some (.int x5), some (.int x6), some (.int x7), some (.long x8), none, some (.long x10), none, some (.long x12), none, some (.int x14), none, some (.int x16), some (.int x17), some (.int x18), none, none, none, none, none, none]) (st' := []) rfl ?_
      exact wpl_lle (ls := [some (.ref 0), none, some (.int x2), some (.ref 1), some (.int x4), some (.int x5), some (.int x6), some (.int x7), some (.long x8), none, some (.long x10), none, some (.long x12), none, some (.int x14), none, none, none, none, none, none, none, none, none, none]) ⟨rfl, rfl, rfl, rfl, rfl, rfl, rfl, rfl, rfl, rfl, rfl, trivial⟩ h93
theorem l0_363 (N : Nat) (sg : Nat → Int32) (x2 : Int32) (x4 : Int32) (x5 : Int32) (x6 : Int32) (x7 : Int32) (x8 : Int64) (x10 : Int64) (x12 : Int64) (x14 : Int32) (x15 : Int32)  (Q : Int32 → Wd → Prop) (h : ((x15 < (4 : Int32)) → wplI PP QQ (some (N, sg)) 0 lm0 375 [some (.ref 0), none, some (.int x2), some (.ref 1), some (.int x4), some (.int x5), some (.int x6), some (.int x7), some (.long x8), none, some (.long x10), none, some (.long x12), none, some (.int x14), some (.int x15), some (.long (0 : Int64)), none, some (.int (0 : Int32)), none, none, none, none, none, none] [] (W1 s) Q) ∧ (¬ (x15 < (4 : Int32)) → wplI PP QQ (some (N, sg)) 0 lm0 487 [some (.ref 0), none, some (.int x2), some (.ref 1), some (.int x4), some (.int x5), some (.int x6), some (.int x7), some (.long x8), none, some (.long x10), none, some (.long x12), none, some (.int x14), some (.int (0 : Int32)), none, none, none, none, none, none, none, none, none] [] (W1 s) Q)) : wplI PP QQ (some (N, sg)) 0 lm0 363 [some (.ref 0), none, some (.int x2), some (.ref 1), some (.int x4), some (.int x5), some (.int x6), some (.int x7), some (.long x8), none, some (.long x10), none, some (.long x12), none, some (.int x14), some (.int x15), none, none, none, none, none, none, none, none, none] [] (W1 s) Q := by
  refine wpl_sl (n := 2) (pc' := 366) (ls' := [some (.ref 0), none, some (.int x2), some (.ref 1), some (.int x4), some (.int x5), some (.int x6), some (.int x7), some (.long x8), none, some (.long x10), none, some (.long x12), none, some (.int x14), some (.int x15), none, none, none, none, none, none, none, none, none]) (st' := [.int (4 : Int32), .int x15]) rfl ?_
  refine wpl_icmp (a := 484) (b := 369) rfl (by decide) rfl rfl (wpl_br (p := x15 < (4 : Int32)) ⟨fun hc94 => ?_, fun hc94 => ?_⟩)
  · have h95 := h.1 hc94
    refine wpl_sl (n := 4) (pc' := 375) (ls' := [some (.ref 0), none, some (.int x2), some (.ref 1), some (.int x4), some (.int x5), some (.int x6), some (.int x7), some (.long x8), none, some (.long x10), none, some (.long x12), none, some (.int x14), some (.int x15), some (.long (0 : Int64)), none, some (.int (0 : Int32)), none, none, none, none, none, none]) (st' := []) rfl ?_
    exact h95
  · have h96 := h.2 hc94
    refine wpl_sl (n := 2) (pc' := 487) (ls' := [some (.ref 0), none, some (.int x2), some (.ref 1), some (.int x4), some (.int x5), some (.int x6), some (.int x7), some (.long x8), none, some (.long x10), none, some (.long x12), none, some (.int x14), some (.int (0 : Int32)), none, none, none, none, none, none, none, none, none]) (st' := []) rfl ?_
    exact h96
theorem l0_210 (N : Nat) (sg : Nat → Int32) (x2 : Int32) (x4 : Int32) (x5 : Int32) (x6 : Int32) (x7 : Int32) (x8 : Int64) (x10 : Int64) (x12 : Int64) (x14 : Int32)  (Q : Int32 → Wd → Prop) (h : wplI PP QQ (some (N, sg)) 0 lm0 360 [some (.ref 0), none, some (.int x2), some (.ref 1), some (.int x4), some (.int x5), some (.int x6), some (.int x7), some (.long x8), none, some (.long x10), none, some (.long x12), none, some (.int x14), none, none, none, none, none, none, none, none, none, none] [] (W1 s) Q) : wplI PP QQ (some (N, sg)) 0 lm0 210 [some (.ref 0), none, some (.int x2), some (.ref 1), some (.int x4), some (.int x5), some (.int x6), some (.int x7), some (.long x8), none, some (.long x10), none, some (.long x12), none, some (.int x14), none, none, none, none, none, none, none, none, none, none] [] (W1 s) Q := by
  refine wpl_sl (n := 1) (pc' := 360) (ls' := [some (.ref 0), none, some (.int x2), some (.ref 1), some (.int x4), some (.int x5), some (.int x6), some (.int x7), some (.long x8), none, some (.long x10), none, some (.long x12), none, some (.int x14), none, none, none, none, none, none, none, none, none, none]) (st' := []) rfl ?_
  exact h
theorem l0_283 (N : Nat) (sg : Nat → Int32) (x2 : Int32) (x4 : Int32) (x5 : Int32) (x6 : Int32) (x7 : Int32) (x8 : Int64) (x10 : Int64) (x12 : Int64) (x14 : Int32) (x16 : Int32) (x17 : Int32) (x18 : Int32)  (Q : Int32 → Wd → Prop) (h : ((x16 = (10 : Int32)) → calI PP 8 12 [.ref 0, .int x18] s (fun v101 s100 => wplI PP QQ (some (N, sg)) 0 lm0 360 [some (.ref 0), none, some (.int x2), some (.ref 1), some (.int x4), some (.int x5), some (.int x6), some (.int x7), some (.long x8), none, some (.long x10), none, some (.long x12), none, some (.int x14), none, none, none, none, none, none, none, none, none, none] [] (W1 s100) Q)) ∧ (¬ (x16 = (10 : Int32)) → ((x16 = (11 : Int32)) → wplI PP QQ (some (N, sg)) 0 lm0 314 [some (.ref 0), none, some (.int x2), some (.ref 1), some (.int x4), some (.int x5), some (.int x6), some (.int x7), some (.long x8), none, some (.long x10), none, some (.long x12), none, some (.int x14), none, none, some (.int x17), some (.int x18), none, none, none, none, none, none] [] (W1 s) Q) ∧ (¬ (x16 = (11 : Int32)) → ((x16 = (12 : Int32)) → wplI PP QQ (some (N, sg)) 0 lm0 314 [some (.ref 0), none, some (.int x2), some (.ref 1), some (.int x4), some (.int x5), some (.int x6), some (.int x7), some (.long x8), none, some (.long x10), none, some (.long x12), none, some (.int x14), none, none, some (.int x17), some (.int x18), none, none, none, none, none, none] [] (W1 s) Q) ∧ (¬ (x16 = (12 : Int32)) → ((x16 = (13 : Int32)) → calI PP 9 12 [.ref 0] s (fun v113 s112 => wplI PP QQ (some (N, sg)) 0 lm0 360 [some (.ref 0), none, some (.int x2), some (.ref 1), some (.int x4), some (.int x5), some (.int x6), some (.int x7), some (.long x8), none, some (.long x10), none, some (.long x12), none, some (.int x14), none, none, none, none, none, none, none, none, none, none] [] (W1 s112) Q)) ∧ (¬ (x16 = (13 : Int32)) → calI PP 10 12 [.ref 0] s (fun v116 s115 => wplI PP QQ (some (N, sg)) 0 lm0 360 [some (.ref 0), none, some (.int x2), some (.ref 1), some (.int x4), some (.int x5), some (.int x6), some (.int x7), some (.long x8), none, some (.long x10), none, some (.long x12), none, some (.int x14), none, none, none, none, none, none, none, none, none, none] [] (W1 s115) Q)))))) : wplI PP QQ (some (N, sg)) 0 lm0 283 [some (.ref 0), none, some (.int x2), some (.ref 1), some (.int x4), some (.int x5), some (.int x6), some (.int x7), some (.long x8), none, some (.long x10), none, some (.long x12), none, some (.int x14), none, some (.int x16), some (.int x17), some (.int x18), none, none, none, none, none, none] [] (W1 s) Q := by
  refine wpl_sl (n := 2) (pc' := 287) (ls' := [some (.ref 0), none, some (.int x2), some (.ref 1), some (.int x4), some (.int x5), some (.int x6), some (.int x7), some (.long x8), none, some (.long x10), none, some (.long x12), none, some (.int x14), none, some (.int x16), some (.int x17), some (.int x18), none, none, none, none, none, none]) (st' := [.int (10 : Int32), .int x16]) rfl ?_
  refine wpl_icmp (a := 300) (b := 290) rfl (by decide) rfl rfl (wpl_br (p := x16 = (10 : Int32)) ⟨fun hc97 => ?_, fun hc97 => ?_⟩)
  · have h98 := h.1 hc97
    refine wpl_sl (n := 2) (pc' := 293) (ls' := [some (.ref 0), none, some (.int x2), some (.ref 1), some (.int x4), some (.int x5), some (.int x6), some (.int x7), some (.long x8), none, some (.long x10), none, some (.long x12), none, some (.int x14), none, some (.int x16), some (.int x17), some (.int x18), none, none, none, none, none, none]) (st' := [.int x18, .ref 1]) rfl ?_
    refine wpl_v1 (m' := 8) (me' := cm8) (as := [.int x18]) (r := []) rfl rfl rfl rfl rfl ⟨by decide, (by first | decide | exact Nat.le_of_ble_eq_true rfl), (by first | decide | exact Nat.le_of_ble_eq_true rfl), rfl⟩ (cal_I (calI.mono h98 fun v101 s100 h102 => ?_))
    refine wpl_sl (n := 2) (pc' := 360) (ls' := [some (.ref 0), none, some (.int x2), some (.ref 1), some (.int x4), some (.int x5), some (.int x6), some (.int x7), some (.long x8), none, some (.long x10), none, some (.long x12), none, some (.int x14), none, some (.int x16), some (.int x17), some (.int x18), none, none, none, none, none, none]) (st' := []) rfl ?_
    exact wpl_lle (ls := [some (.ref 0), none, some (.int x2), some (.ref 1), some (.int x4), some (.int x5), some (.int x6), some (.int x7), some (.long x8), none, some (.long x10), none, some (.long x12), none, some (.int x14), none, none, none, none, none, none, none, none, none, none]) ⟨rfl, rfl, rfl, rfl, rfl, rfl, rfl, rfl, rfl, rfl, rfl, trivial⟩ h102
  · have h99 := h.2 hc97
    refine wpl_sl (n := 2) (pc' := 304) (ls' := [some (.ref 0), none, some (.int x2), some (.ref 1), some (.int x4), some (.int x5), some (.int x6), some (.int x7), some (.long x8), none, some (.long x10), none, some (.long x12), none, some (.int x14), none, some (.int x16), some (.int x17), some (.int x18), none, none, none, none, none, none]) (st' := [.int (11 : Int32), .int x16]) rfl ?_
    refine wpl_icmp (a := 314) (b := 307) rfl (by decide) rfl rfl (wpl_br (p := x16 = (11 : Int32)) ⟨fun hc103 => ?_, fun hc103 => ?_⟩)
    · have h104 := h99.1 hc103
      exact wpl_lle (ls := [some (.ref 0), none, some (.int x2), some (.ref 1), some (.int x4), some (.int x5), some (.int x6), some (.int x7), some (.long x8), none, some (.long x10), none, some (.long x12), none, some (.int x14), none, none, some (.int x17), some (.int x18), none, none, none, none, none, none]) ⟨rfl, rfl, rfl, rfl, rfl, rfl, rfl, rfl, rfl, rfl, rfl, rfl, rfl, trivial⟩ h104
    · have h105 := h99.2 hc103
      refine wpl_sl (n := 2) (pc' := 311) (ls' := [some (.ref 0), none, some (.int x2), some (.ref 1), some (.int x4), some (.int x5), some (.int x6), some (.int x7), some (.long x8), none, some (.long x10), none, some (.long x12), none, some (.int x14), none, some (.int x16), some (.int x17), some (.int x18), none, none, none, none, none, none]) (st' := [.int (12 : Int32), .int x16]) rfl ?_
      refine wpl_icmp (a := 340) (b := 314) rfl (by decide) rfl rfl (wpl_br (p := x16 = (12 : Int32)) ⟨fun hc106 => ?_, fun hc106 => ?_⟩)
      · have h107 := h105.1 hc106
        exact wpl_lle (ls := [some (.ref 0), none, some (.int x2), some (.ref 1), some (.int x4), some (.int x5), some (.int x6), some (.int x7), some (.long x8), none, some (.long x10), none, some (.long x12), none, some (.int x14), none, none, some (.int x17), some (.int x18), none, none, none, none, none, none]) ⟨rfl, rfl, rfl, rfl, rfl, rfl, rfl, rfl, rfl, rfl, rfl, rfl, rfl, trivial⟩ h107
      · have h108 := h105.2 hc106
        refine wpl_sl (n := 2) (pc' := 344) (ls' := [some (.ref 0), none, some (.int x2), some (.ref 1), some (.int x4), some (.int x5), some (.int x6), some (.int x7), some (.long x8), none, some (.long x10), none, some (.long x12), none, some (.int x14), none, some (.int x16), some (.int x17), some (.int x18), none, none, none, none, none, none]) (st' := [.int (13 : Int32), .int x16]) rfl ?_
        refine wpl_icmp (a := 355) (b := 347) rfl (by decide) rfl rfl (wpl_br (p := x16 = (13 : Int32)) ⟨fun hc109 => ?_, fun hc109 => ?_⟩)
        · have h110 := h108.1 hc109
          refine wpl_sl (n := 1) (pc' := 348) (ls' := [some (.ref 0), none, some (.int x2), some (.ref 1), some (.int x4), some (.int x5), some (.int x6), some (.int x7), some (.long x8), none, some (.long x10), none, some (.long x12), none, some (.int x14), none, some (.int x16), some (.int x17), some (.int x18), none, none, none, none, none, none]) (st' := [.ref 1]) rfl ?_
          refine wpl_v1 (m' := 9) (me' := cm9) (as := []) (r := []) rfl rfl rfl rfl rfl ⟨by decide, (by first | decide | exact Nat.le_of_ble_eq_true rfl), (by first | decide | exact Nat.le_of_ble_eq_true rfl), rfl⟩ (cal_I (calI.mono h110 fun v113 s112 h114 => ?_))
          refine wpl_sl (n := 2) (pc' := 360) (ls' := [some (.ref 0), none, some (.int x2), some (.ref 1), some (.int x4), some (.int x5), some (.int x6), some (.int x7), some (.long x8), none, some (.long x10), none, some (.long x12), none, some (.int x14), none, some (.int x16), some (.int x17), some (.int x18), none, none, none, none, none, none]) (st' := []) rfl ?_
          exact wpl_lle (ls := [some (.ref 0), none, some (.int x2), some (.ref 1), some (.int x4), some (.int x5), some (.int x6), some (.int x7), some (.long x8), none, some (.long x10), none, some (.long x12), none, some (.int x14), none, none, none, none, none, none, none, none, none, none]) ⟨rfl, rfl, rfl, rfl, rfl, rfl, rfl, rfl, rfl, rfl, rfl, trivial⟩ h114
        · have h111 := h108.2 hc109
          refine wpl_sl (n := 1) (pc' := 356) (ls' := [some (.ref 0), none, some (.int x2), some (.ref 1), some (.int x4), some (.int x5), some (.int x6), some (.int x7), some (.long x8), none, some (.long x10), none, some (.long x12), none, some (.int x14), none, some (.int x16), some (.int x17), some (.int x18), none, none, none, none, none, none]) (st' := [.ref 1]) rfl ?_
          refine wpl_v1 (m' := 10) (me' := cm10) (as := []) (r := []) rfl rfl rfl rfl rfl ⟨by decide, (by first | decide | exact Nat.le_of_ble_eq_true rfl), (by first | decide | exact Nat.le_of_ble_eq_true rfl), rfl⟩ (cal_I (calI.mono h111 fun v116 s115 h117 => ?_))
          refine wpl_sl (n := 1) (pc' := 360) (ls' := [some (.ref 0), none, some (.int x2), some (.ref 1), some (.int x4), some (.int x5), some (.int x6), some (.int x7), some (.long x8), none, some (.long x10), none, some (.long x12), none, some (.int x14), none, some (.int x16), some (.int x17), some (.int x18), none, none, none, none, none, none]) (st' := []) rfl ?_
          exact wpl_lle (ls := [some (.ref 0), none, some (.int x2), some (.ref 1), some (.int x4), some (.int x5), some (.int x6), some (.int x7), some (.long x8), none, some (.long x10), none, some (.long x12), none, some (.int x14), none, none, none, none, none, none, none, none, none, none]) ⟨rfl, rfl, rfl, rfl, rfl, rfl, rfl, rfl, rfl, rfl, rfl, trivial⟩ h117
theorem l0_375 (N : Nat) (sg : Nat → Int32) (x2 : Int32) (x4 : Int32) (x5 : Int32) (x6 : Int32) (x7 : Int32) (x8 : Int64) (x10 : Int64) (x12 : Int64) (x14 : Int32) (x15 : Int32) (x16 : Int64) (x18 : Int32)  (Q : Int32 → Wd → Prop) (h : ((x18 < (8 : Int32)) → calI PP 12 12 [.ref 0, .int x18] s (fun v122 s121 => wplI PP QQ (some (N, sg)) 0 lm0 393 [some (.ref 0), none, some (.int x2), some (.ref 1), some (.int x4), some (.int x5), some (.int x6), some (.int x7), some (.long x8), none, some (.long x10), none, some (.long x12), none, some (.int x14), some (.int x15), some (.long x16), none, some (.int x18), some (.int v122), some (.int (0 : Int32)), none, none, none, none] [] (W1 s121) Q)) ∧ (¬ (x18 < (8 : Int32)) → calI PP 15 12 [.ref 0, .int x15] s (fun v125 s124 => (((XT.cmpL (Int32.toInt64 v125) ((Int32.toInt64 x2) - x16)) = (0 : Int32)) → wplI PP QQ (some (N, sg)) 0 lm0 363 [some (.ref 0), none, some (.int x2), some (.ref 1), some (.int x4), some (.int x5), some (.int x6), some (.int x7), some (.long x8), none, some (.long x10), none, some (.long x12), none, some (.int x14), some (.int (x15 + (1 : Int32))), none, none, none, none, none, none, none, none, none] [] (W1 s124) Q) ∧ (¬ ((XT.cmpL (Int32.toInt64 v125) ((Int32.toInt64 x2) - x16)) = (0 : Int32)) → Q (0 : Int32) (W1 s124))))) : wplI PP QQ (some (N, sg)) 0 lm0 375 [some (.ref 0), none, some (.int x2), some (.ref 1), some (.int x4), some (.int x5), some (.int x6), some (.int x7), some (.long x8), none, some (.long x10), none, some (.long x12), none, some (.int x14), some (.int x15), some (.long x16), none, some (.int x18), none, none, none, none, none, none] [] (W1 s) Q := by
  refine wpl_sl (n := 2) (pc' := 379) (ls' := [some (.ref 0), none, some (.int x2), some (.ref 1), some (.int x4), some (.int x5), some (.int x6), some (.int x7), some (.long x8), none, some (.long x10), none, some (.long x12), none, some (.int x14), some (.int x15), some (.long x16), none, some (.int x18), none, none, none, none, none, none]) (st' := [.int (8 : Int32), .int x18]) rfl ?_
  refine wpl_icmp (a := 460) (b := 382) rfl (by decide) rfl rfl (wpl_br (p := x18 < (8 : Int32)) ⟨fun hc118 => ?_, fun hc118 => ?_⟩)
  · have h119 := h.1 hc118
    refine wpl_sl (n := 2) (pc' := 385) (ls' := [some (.ref 0), none, some (.int x2), some (.ref 1), some (.int x4), some (.int x5), some (.int x6), some (.int x7), some (.long x8), none, some (.long x10), none, some (.long x12), none, some (.int x14), some (.int x15), some (.long x16), none, some (.int x18), none, none, none, none, none, none]) (st' := [.int x18, .ref 1]) rfl ?_
    refine wpl_v1 (m' := 12) (me' := cm12) (as := [.int x18]) (r := []) rfl rfl rfl rfl rfl ⟨by decide, (by first | decide | exact Nat.le_of_ble_eq_true rfl), (by first | decide | exact Nat.le_of_ble_eq_true rfl), rfl⟩ (cal_I (calI.mono h119 fun v122 s121 h123 => ?_))
    refine wpl_sl (n := 3) (pc' := 393) (ls' := [some (.ref 0), none, some (.int x2), some (.ref 1), some (.int x4), some (.int x5), some (.int x6), some (.int x7), some (.long x8), none, some (.long x10), none, some (.long x12), none, some (.int x14), some (.int x15), some (.long x16), none, some (.int x18), some (.int v122), some (.int (0 : Int32)), none, none, none, none]) (st' := []) rfl ?_
    exact h123
  · have h120 := h.2 hc118
    refine wpl_sl (n := 2) (pc' := 463) (ls' := [some (.ref 0), none, some (.int x2), some (.ref 1), some (.int x4), some (.int x5), some (.int x6), some (.int x7), some (.long x8), none, some (.long x10), none, some (.long x12), none, some (.int x14), some (.int x15), some (.long x16), none, some (.int x18), none, none, none, none, none, none]) (st' := [.int x15, .ref 1]) rfl ?_
    refine wpl_v1 (m' := 15) (me' := cm15) (as := [.int x15]) (r := []) rfl rfl rfl rfl rfl ⟨by decide, (by first | decide | exact Nat.le_of_ble_eq_true rfl), (by first | decide | exact Nat.le_of_ble_eq_true rfl), rfl⟩ (cal_I (calI.mono h120 fun v125 s124 h126 => ?_))
    refine wpl_sl (n := 6) (pc' := 473) (ls' := [some (.ref 0), none, some (.int x2), some (.ref 1), some (.int x4), some (.int x5), some (.int x6), some (.int x7), some (.long x8), none, some (.long x10), none, some (.long x12), none, some (.int x14), some (.int x15), some (.long x16), none, some (.int x18), none, none, none, none, none, none]) (st' := [.int (XT.cmpL (Int32.toInt64 v125) ((Int32.toInt64 x2) - x16))]) rfl ?_
    refine wpl_if (a := 478) (b := 476) rfl (by decide) rfl rfl (wpl_br (p := (XT.cmpL (Int32.toInt64 v125) ((Int32.toInt64 x2) - x16)) = (0 : Int32)) ⟨fun hc127 => ?_, fun hc127 => ?_⟩)
    · have h128 := h126.1 hc127
      refine wpl_sl (n := 2) (pc' := 363) (ls' := [some (.ref 0), none, some (.int x2), some (.ref 1), some (.int x4), some (.int x5), some (.int x6), some (.int x7), some (.long x8), none, some (.long x10), none, some (.long x12), none, some (.int x14), some (.int (x15 + (1 : Int32))), some (.long x16), none, some (.int x18), none, none, none, none, none, none]) (st' := []) rfl ?_
      exact wpl_lle (ls := [some (.ref 0), none, some (.int x2), some (.ref 1), some (.int x4), some (.int x5), some (.int x6), some (.int x7), some (.long x8), none, some (.long x10), none, some (.long x12), none, some (.int x14), some (.int (x15 + (1 : Int32))), none, none, none, none, none, none, none, none, none]) ⟨rfl, rfl, rfl, rfl, rfl, rfl, rfl, rfl, rfl, rfl, rfl, rfl, trivial⟩ h128
    · have h129 := h126.2 hc127
      refine wpl_sl (n := 1) (pc' := 477) (ls' := [some (.ref 0), none, some (.int x2), some (.ref 1), some (.int x4), some (.int x5), some (.int x6), some (.int x7), some (.long x8), none, some (.long x10), none, some (.long x12), none, some (.int x14), some (.int x15), some (.long x16), none, some (.int x18), none, none, none, none, none, none]) (st' := [.int (0 : Int32)]) rfl ?_
      exact wpl_ret rfl rfl rfl ⟨(0 : Int32), rfl, h129⟩
theorem l0_487 (N : Nat) (sg : Nat → Int32) (x2 : Int32) (x4 : Int32) (x5 : Int32) (x6 : Int32) (x7 : Int32) (x8 : Int64) (x10 : Int64) (x12 : Int64) (x14 : Int32) (x15 : Int32)  (Q : Int32 → Wd → Prop) (h : ((x15 < (8 : Int32)) → calI PP 11 12 [.ref 0, .int x15] s (fun v134 s133 => calI PP 12 12 [.ref 0, .int x15] s133 (fun v137 s136 => wplI PP QQ (some (N, sg)) 0 lm0 516 [some (.ref 0), none, some (.int x2), some (.ref 1), some (.int x4), some (.int x5), some (.int x6), some (.int x7), some (.long x8), none, some (.long x10), none, some (.long x12), none, some (.int x14), some (.int x15), some (.int v134), some (.int v137), some (.long (0 : Int64)), none, some (.int (0 : Int32)), none, none, none, none] [] (W1 s136) Q))) ∧ (¬ (x15 < (8 : Int32)) → wplI PP QQ (some (N, sg)) 0 lm0 77 [some (.ref 0), none, some (.int x2), some (.ref 1), some (.int x4), some (.int x5), some (.int x6), some (.int x7), some (.long x8), none, some (.long x10), none, some (.long x12), none, some (.int (x14 + (1 : Int32))), none, none, none, none, none, none, none, none, none, none] [] (W1 s) Q)) : wplI PP QQ (some (N, sg)) 0 lm0 487 [some (.ref 0), none, some (.int x2), some (.ref 1), some (.int x4), some (.int x5), some (.int x6), some (.int x7), some (.long x8), none, some (.long x10), none, some (.long x12), none, some (.int x14), some (.int x15), none, none, none, none, none, none, none, none, none] [] (W1 s) Q := by
  refine wpl_sl (n := 2) (pc' := 491) (ls' := [some (.ref 0), none, some (.int x2), some (.ref 1), some (.int x4), some (.int x5), some (.int x6), some (.int x7), some (.long x8), none, some (.long x10), none, some (.long x12), none, some (.int x14), some (.int x15), none, none, none, none, none, none, none, none, none]) (st' := [.int (8 : Int32), .int x15]) rfl ?_
  refine wpl_icmp (a := 823) (b := 494) rfl (by decide) rfl rfl (wpl_br (p := x15 < (8 : Int32)) ⟨fun hc130 => ?_, fun hc130 => ?_⟩)
  · have h131 := h.1 hc130
    refine wpl_sl (n := 2) (pc' := 497) (ls' := [some (.ref 0), none, some (.int x2), some (.ref 1), some (.int x4), some (.int x5), some (.int x6), some (.int x7), some (.long x8), none, some (.long x10), none, some (.long x12), none, some (.int x14), some (.int x15), none, none, none, none, none, none, none, none, none]) (st' := [.int x15, .ref 1]) rfl ?_
    refine wpl_v1 (m' := 11) (me' := cm11) (as := [.int x15]) (r := []) rfl rfl rfl rfl rfl ⟨by decide, (by first | decide | exact Nat.le_of_ble_eq_true rfl), (by first | decide | exact Nat.le_of_ble_eq_true rfl), rfl⟩ (cal_I (calI.mono h131 fun v134 s133 h135 => ?_))
    refine wpl_sl (n := 3) (pc' := 505) (ls' := [some (.ref 0), none, some (.int x2), some (.ref 1), some (.int x4), some (.int x5), some (.int x6), some (.int x7), some (.long x8), none, some (.long x10), none, some (.long x12), none, some (.int x14), some (.int x15), some (.int v134), none, none, none, none, none, none, none, none]) (st' := [.int x15, .ref 1]) rfl ?_
    refine wpl_v1 (m' := 12) (me' := cm12) (as := [.int x15]) (r := []) rfl rfl rfl rfl rfl ⟨by decide, (by first | decide | exact Nat.le_of_ble_eq_true rfl), (by first | decide | exact Nat.le_of_ble_eq_true rfl), rfl⟩ (cal_I (calI.mono h135 fun v137 s136 h138 => ?_))
    refine wpl_sl (n := 5) (pc' := 516) (ls' := [some (.ref 0), none, some (.int x2), some (.ref 1), some (.int x4), some (.int x5), some (.int x6), some (.int x7), some (.long x8), none, some (.long x10), none, some (.long x12), none, some (.int x14), some (.int x15), some (.int v134), some (.int v137), some (.long (0 : Int64)), none, some (.int (0 : Int32)), none, none, none, none]) (st' := []) rfl ?_
    exact h138
  · have h132 := h.2 hc130
    refine wpl_sl (n := 2) (pc' := 77) (ls' := [some (.ref 0), none, some (.int x2), some (.ref 1), some (.int x4), some (.int x5), some (.int x6), some (.int x7), some (.long x8), none, some (.long x10), none, some (.long x12), none, some (.int (x14 + (1 : Int32))), some (.int x15), none, none, none, none, none, none, none, none, none]) (st' := []) rfl ?_
    exact wpl_lle (ls := [some (.ref 0), none, some (.int x2), some (.ref 1), some (.int x4), some (.int x5), some (.int x6), some (.int x7), some (.long x8), none, some (.long x10), none, some (.long x12), none, some (.int (x14 + (1 : Int32))), none, none, none, none, none, none, none, none, none, none]) ⟨rfl, rfl, rfl, rfl, rfl, rfl, rfl, rfl, rfl, rfl, rfl, trivial⟩ h132
theorem l0_314 (N : Nat) (sg : Nat → Int32) (x2 : Int32) (x4 : Int32) (x5 : Int32) (x6 : Int32) (x7 : Int32) (x8 : Int64) (x10 : Int64) (x12 : Int64) (x14 : Int32) (x17 : Int32) (x18 : Int32)  (Q : Int32 → Wd → Prop) (h : calI PP 6 12 [.ref 0, .int x18, .int ((XT.ushr x17 (3 : Int32)) % (6 : Int32)), .int ((1 : Int32) + ((XT.ushr x17 (6 : Int32)) &&& (1 : Int32)))] s (fun v140 s139 => wplI PP QQ (some (N, sg)) 0 lm0 360 [some (.ref 0), none, some (.int x2), some (.ref 1), some (.int x4), some (.int x5), some (.int x6), some (.int x7), some (.long x8), none, some (.long x10), none, some (.long x12), none, some (.int x14), none, none, none, none, none, none, none, none, none, none] [] (W1 s139) Q)) : wplI PP QQ (some (N, sg)) 0 lm0 314 [some (.ref 0), none, some (.int x2), some (.ref 1), some (.int x4), some (.int x5), some (.int x6), some (.int x7), some (.long x8), none, some (.long x10), none, some (.long x12), none, some (.int x14), none, none, some (.int x17), some (.int x18), none, none, none, none, none, none] [] (W1 s) Q := by
  refine wpl_sl (n := 5) (pc' := 321) (ls' := [some (.ref 0), none, some (.int x2), some (.ref 1), some (.int x4), some (.int x5), some (.int x6), some (.int x7), some (.long x8), none, some (.long x10), none, some (.long x12), none, some (.int x14), none, none, some (.int x17), some (.int x18), none, none, none, none, none, none]) (st' := [.int (XT.ushr x17 (3 : Int32)), .int x18, .ref 1]) rfl ?_
  refine wpl_sl (n := 5) (pc' := 329) (ls' := [some (.ref 0), none, some (.int x2), some (.ref 1), some (.int x4), some (.int x5), some (.int x6), some (.int x7), some (.long x8), none, some (.long x10), none, some (.long x12), none, some (.int x14), none, none, some (.int x17), some (.int x18), none, none, none, none, none, none]) (st' := [.int (6 : Int32), .int x17, .int (1 : Int32), .int ((XT.ushr x17 (3 : Int32)) % (6 : Int32)), .int x18, .ref 1]) rfl ?_
  refine wpl_sl (n := 4) (pc' := 333) (ls' := [some (.ref 0), none, some (.int x2), some (.ref 1), some (.int x4), some (.int x5), some (.int x6), some (.int x7), some (.long x8), none, some (.long x10), none, some (.long x12), none, some (.int x14), none, none, some (.int x17), some (.int x18), none, none, none, none, none, none]) (st' := [.int ((1 : Int32) + ((XT.ushr x17 (6 : Int32)) &&& (1 : Int32))), .int ((XT.ushr x17 (3 : Int32)) % (6 : Int32)), .int x18, .ref 1]) rfl ?_
  refine wpl_v1 (m' := 6) (me' := cm6) (as := [.int x18, .int ((XT.ushr x17 (3 : Int32)) % (6 : Int32)), .int ((1 : Int32) + ((XT.ushr x17 (6 : Int32)) &&& (1 : Int32)))]) (r := []) rfl rfl rfl rfl rfl ⟨by decide, (by first | decide | exact Nat.le_of_ble_eq_true rfl), (by first | decide | exact Nat.le_of_ble_eq_true rfl), rfl⟩ (cal_I (calI.mono h fun v140 s139 h141 => ?_))
  refine wpl_sl (n := 2) (pc' := 360) (ls' := [some (.ref 0), none, some (.int x2), some (.ref 1), some (.int x4), some (.int x5), some (.int x6), some (.int x7), some (.long x8), none, some (.long x10), none, some (.long x12), none, some (.int x14), none, none, some (.int x17), some (.int x18), none, none, none, none, none, none]) (st' := []) rfl ?_
  exact wpl_lle (ls := [some (.ref 0), none, some (.int x2), some (.ref 1), some (.int x4), some (.int x5), some (.int x6), some (.int x7), some (.long x8), none, some (.long x10), none, some (.long x12), none, some (.int x14), none, none, none, none, none, none, none, none, none, none]) ⟨rfl, rfl, rfl, rfl, rfl, rfl, rfl, rfl, rfl, rfl, rfl, trivial⟩ h141
theorem l0_393 (N : Nat) (sg : Nat → Int32) (x2 : Int32) (x4 : Int32) (x5 : Int32) (x6 : Int32) (x7 : Int32) (x8 : Int64) (x10 : Int64) (x12 : Int64) (x14 : Int32) (x15 : Int32) (x16 : Int64) (x18 : Int32) (x19 : Int32) (x20 : Int32)  (Q : Int32 → Wd → Prop) (h : ((x20 < x19) → ((x20 < (6 : Int32)) → lalI PP QQ (some (N, sg)) 5 [.int x4, .int x18, .int x20] (W1 s) (fun v149 w148 => ∃ s151, w148 = W1 s151 ∧ (((v149 = x15) → calI PP 14 12 [.ref 0, .int x18, .int x20] s151 (fun v156 s155 => ((v156 = (1 : Int32)) → lalI PP QQ (some (N, sg)) 6 [.int x4, .int x18, .int x20] (W1 s155) (fun v162 w161 => ∃ s164, w161 = W1 s164 ∧ (wplI PP QQ (some (N, sg)) 0 lm0 448 [some (.ref 0), none, some (.int x2), some (.ref 1), some (.int x4), some (.int x5), some (.int x6), some (.int x7), some (.long x8), none, some (.long x10), none, some (.long x12), none, some (.int x14), some (.int x15), some (.long (x16 + (Int32.toInt64 v162))), none, some (.int x18), some (.int x19), some (.int x20), none, none, none, none] [] (W1 s164) Q))) ∧ (¬ (v156 = (1 : Int32)) → wplI PP QQ (some (N, sg)) 0 lm0 448 [some (.ref 0), none, some (.int x2), some (.ref 1), some (.int x4), some (.int x5), some (.int x6), some (.int x7), some (.long x8), none, some (.long x10), none, some (.long x12), none, some (.int x14), some (.int x15), some (.long x16), none, some (.int x18), some (.int x19), some (.int x20), none, none, none, none] [] (W1 s155) Q))) ∧ (¬ (v149 = x15) → wplI PP QQ (some (N, sg)) 0 lm0 448 [some (.ref 0), none, some (.int x2), some (.ref 1), some (.int x4), some (.int x5), some (.int x6), some (.int x7), some (.long x8), none, some (.long x10), none, some (.long x12), none, some (.int x14), some (.int x15), some (.long x16), none, some (.int x18), some (.int x19), some (.int x20), none, none, none, none] [] (W1 s151) Q)))) ∧ (¬ (x20 < (6 : Int32)) → wplI PP QQ (some (N, sg)) 0 lm0 454 [some (.ref 0), none, some (.int x2), some (.ref 1), some (.int x4), some (.int x5), some (.int x6), some (.int x7), some (.long x8), none, some (.long x10), none, some (.long x12), none, some (.int x14), some (.int x15), some (.long x16), none, some (.int x18), none, none, none, none, none, none] [] (W1 s) Q)) ∧ (¬ (x20 < x19) → wplI PP QQ (some (N, sg)) 0 lm0 454 [some (.ref 0), none, some (.int x2), some (.ref 1), some (.int x4), some (.int x5), some (.int x6), some (.int x7), some (.long x8), none, some (.long x10), none, some (.long x12), none, some (.int x14), some (.int x15), some (.long x16), none, some (.int x18), none, none, none, none, none, none] [] (W1 s) Q)) : wplI PP QQ (some (N, sg)) 0 lm0 393 [some (.ref 0), none, some (.int x2), some (.ref 1), some (.int x4), some (.int x5), some (.int x6), some (.int x7), some (.long x8), none, some (.long x10), none, some (.long x12), none, some (.int x14), some (.int x15), some (.long x16), none, some (.int x18), some (.int x19), some (.int x20), none, none, none, none] [] (W1 s) Q := by
  refine wpl_sl (n := 2) (pc' := 397) (ls' := [some (.ref 0), none, some (.int x2), some (.ref 1), some (.int x4), some (.int x5), some (.int x6), some (.int x7), some (.long x8), none, some (.long x10), none, some (.long x12), none, some (.int x14), some (.int x15), some (.long x16), none, some (.int x18), some (.int x19), some (.int x20), none, none, none, none]) (st' := [.int x19, .int x20]) rfl ?_
  refine wpl_icmp (a := 454) (b := 400) rfl (by decide) rfl rfl (wpl_br (p := x20 < x19) ⟨fun hc142 => ?_, fun hc142 => ?_⟩)
  · have h143 := h.1 hc142
    refine wpl_sl (n := 2) (pc' := 404) (ls' := [some (.ref 0), none, some (.int x2), some (.ref 1), some (.int x4), some (.int x5), some (.int x6), some (.int x7), some (.long x8), none, some (.long x10), none, some (.long x12), none, some (.int x14), some (.int x15), some (.long x16), none, some (.int x18), some (.int x19), some (.int x20), none, none, none, none]) (st' := [.int (6 : Int32), .int x20]) rfl ?_
    refine wpl_icmp (a := 454) (b := 407) rfl (by decide) rfl rfl (wpl_br (p := x20 < (6 : Int32)) ⟨fun hc145 => ?_, fun hc145 => ?_⟩)
    · have h146 := h143.1 hc145
      refine wpl_sl (n := 3) (pc' := 413) (ls' := [some (.ref 0), none, some (.int x2), some (.ref 1), some (.int x4), some (.int x5), some (.int x6), some (.int x7), some (.long x8), none, some (.long x10), none, some (.long x12), none, some (.int x14), some (.int x15), some (.long x16), none, some (.int x18), some (.int x19), some (.int x20), none, none, none, none]) (st' := [.int x20, .int x18, .int x4]) rfl ?_
      refine wpl_stat (m' := 5) (me' := lm5) (as := [.int x4, .int x18, .int x20]) (r := []) rfl rfl rfl rfl rfl ⟨(by first | decide | exact Nat.le_of_ble_eq_true rfl), (by first | decide | exact Nat.le_of_ble_eq_true rfl), (by first | decide | exact Nat.le_of_ble_eq_true rfl), (by first | decide | exact Nat.le_of_ble_eq_true rfl), rfl⟩ (lal_I (lalI.mono h146 fun v149 w148 hh => ?_))
      obtain ⟨s151, rfl, h150⟩ := hh
      refine wpl_sl (n := 1) (pc' := 418) (ls' := [some (.ref 0), none, some (.int x2), some (.ref 1), some (.int x4), some (.int x5), some (.int x6), some (.int x7), some (.long x8), none, some (.long x10), none, some (.long x12), none, some (.int x14), some (.int x15), some (.long x16), none, some (.int x18), some (.int x19), some (.int x20), none, none, none, none]) (st' := [.int x15, .int v149]) rfl ?_
      refine wpl_icmp (a := 448) (b := 421) rfl (by decide) rfl rfl (wpl_br (p := v149 = x15) ⟨fun hc152 => ?_, fun hc152 => ?_⟩)
      · have h153 := h150.1 hc152
        refine wpl_sl (n := 3) (pc' := 426) (ls' := [some (.ref 0), none, some (.int x2), some (.ref 1), some (.int x4), some (.int x5), some (.int x6), some (.int x7), some (.long x8), none, some (.long x10), none, some (.long x12), none, some (.int x14), some (.int x15), some (.long x16), none, some (.int x18), some (.int x19), some (.int x20), none, none, none, none]) (st' := [.int x20, .int x18, .ref 1]) rfl ?_
        refine wpl_v1 (m' := 14) (me' := cm14) (as := [.int x18, .int x20]) (r := []) rfl rfl rfl rfl rfl ⟨by decide, (by first | decide | exact Nat.le_of_ble_eq_true rfl), (by first | decide | exact Nat.le_of_ble_eq_true rfl), rfl⟩ (cal_I (calI.mono h153 fun v156 s155 h157 => ?_))
        refine wpl_sl (n := 1) (pc' := 430) (ls' := [some (.ref 0), none, some (.int x2), some (.ref 1), some (.int x4), some (.int x5), some (.int x6), some (.int x7), some (.long x8), none, some (.long x10), none, some (.long x12), none, some (.int x14), some (.int x15), some (.long x16), none, some (.int x18), some (.int x19), some (.int x20), none, none, none, none]) (st' := [.int (1 : Int32), .int v156]) rfl ?_
        refine wpl_icmp (a := 448) (b := 433) rfl (by decide) rfl rfl (wpl_br (p := v156 = (1 : Int32)) ⟨fun hc158 => ?_, fun hc158 => ?_⟩)
        · have h159 := h157.1 hc158
          refine wpl_sl (n := 4) (pc' := 441) (ls' := [some (.ref 0), none, some (.int x2), some (.ref 1), some (.int x4), some (.int x5), some (.int x6), some (.int x7), some (.long x8), none, some (.long x10), none, some (.long x12), none, some (.int x14), some (.int x15), some (.long x16), none, some (.int x18), some (.int x19), some (.int x20), none, none, none, none]) (st' := [.int x20, .int x18, .int x4, .long x16]) rfl ?_
          refine wpl_stat (m' := 6) (me' := lm6) (as := [.int x4, .int x18, .int x20]) (r := [.long x16]) rfl rfl rfl rfl rfl ⟨(by first | decide | exact Nat.le_of_ble_eq_true rfl), (by first | decide | exact Nat.le_of_ble_eq_true rfl), (by first | decide | exact Nat.le_of_ble_eq_true rfl), (by first | decide | exact Nat.le_of_ble_eq_true rfl), rfl⟩ (lal_I (lalI.mono h159 fun v162 w161 hh => ?_))
          obtain ⟨s164, rfl, h163⟩ := hh
          refine wpl_sl (n := 3) (pc' := 448) (ls' := [some (.ref 0), none, some (.int x2), some (.ref 1), some (.int x4), some (.int x5), some (.int x6), some (.int x7), some (.long x8), none, some (.long x10), none, some (.long x12), none, some (.int x14), some (.int x15), some (.long (x16 + (Int32.toInt64 v162))), none, some (.int x18), some (.int x19), some (.int x20), none, none, none, none]) (st' := []) rfl ?_
          exact h163
        · have h160 := h157.2 hc158
          exact h160
      · have h154 := h150.2 hc152
        exact h154
    · have h147 := h143.2 hc145
      exact wpl_lle (ls := [some (.ref 0), none, some (.int x2), some (.ref 1), some (.int x4), some (.int x5), some (.int x6), some (.int x7), some (.long x8), none, some (.long x10), none, some (.long x12), none, some (.int x14), some (.int x15), some (.long x16), none, some (.int x18), none, none, none, none, none, none]) ⟨rfl, rfl, rfl, rfl, rfl, rfl, rfl, rfl, rfl, rfl, rfl, rfl, rfl, rfl, trivial⟩ h147
  · have h144 := h.2 hc142
    exact wpl_lle (ls := [some (.ref 0), none, some (.int x2), some (.ref 1), some (.int x4), some (.int x5), some (.int x6), some (.int x7), some (.long x8), none, some (.long x10), none, some (.long x12), none, some (.int x14), some (.int x15), some (.long x16), none, some (.int x18), none, none, none, none, none, none]) ⟨rfl, rfl, rfl, rfl, rfl, rfl, rfl, rfl, rfl, rfl, rfl, rfl, rfl, rfl, trivial⟩ h144
theorem l0_516 (N : Nat) (sg : Nat → Int32) (x2 : Int32) (x4 : Int32) (x5 : Int32) (x6 : Int32) (x7 : Int32) (x8 : Int64) (x10 : Int64) (x12 : Int64) (x14 : Int32) (x15 : Int32) (x16 : Int32) (x17 : Int32) (x18 : Int64) (x20 : Int32)  (Q : Int32 → Wd → Prop) (h : ((x20 < (6 : Int32)) → calI PP 14 12 [.ref 0, .int x15, .int x20] s (fun v169 s168 => wplI PP QQ (some (N, sg)) 0 lm0 516 [some (.ref 0), none, some (.int x2), some (.ref 1), some (.int x4), some (.int x5), some (.int x6), some (.int x7), some (.long x8), none, some (.long x10), none, some (.long x12), none, some (.int x14), some (.int x15), some (.int x16), some (.int x17), some (.long (x18 ||| ((Int32.toInt64 ((v169 + (1 : Int32)) &&& (7 : Int32))) <<< ((((3 : Int32) * x20)).toInt64 &&& 63)))), none, some (.int (x20 + (1 : Int32))), none, none, none, none] [] (W1 s168) Q)) ∧ (¬ (x20 < (6 : Int32)) → ((x16 = (4 : Int32)) → wplI PP QQ (some (N, sg)) 0 lm0 562 [some (.ref 0), none, some (.int x2), some (.ref 1), some (.int x4), some (.int x5), some (.int x6), some (.int x7), some (.long x8), none, some (.long x10), none, some (.long x12), none, some (.int x14), some (.int x15), some (.int x16), some (.int x17), some (.long x18), none, some (.int (0 : Int32)), none, none, none, none] [] (W1 s) Q) ∧ (¬ (x16 = (4 : Int32)) → wplI PP QQ (some (N, sg)) 0 lm0 610 [some (.ref 0), none, some (.int x2), some (.ref 1), some (.int x4), some (.int x5), some (.int x6), some (.int x7), some (.long x8), none, some (.long x10), none, some (.long x12), none, some (.int x14), some (.int x15), some (.int x16), some (.int x17), some (.long x18), none, none, none, none, none, none] [] (W1 s) Q))) : wplI PP QQ (some (N, sg)) 0 lm0 516 [some (.ref 0), none, some (.int x2), some (.ref 1), some (.int x4), some (.int x5), some (.int x6), some (.int x7), some (.long x8), none, some (.long x10), none, some (.long x12), none, some (.int x14), some (.int x15), some (.int x16), some (.int x17), some (.long x18), none, some (.int x20), none, none, none, none] [] (W1 s) Q := by
  refine wpl_sl (n := 2) (pc' := 520) (ls' := [some (.ref 0), none, some (.int x2), some (.ref 1), some (.int x4), some (.int x5), some (.int x6), some (.int x7), some (.long x8), none, some (.long x10), none, some (.long x12), none, some (.int x14), some (.int x15), some (.int x16), some (.int x17), some (.long x18), none, some (.int x20), none, none, none, none]) (st' := [.int (6 : Int32), .int x20]) rfl ?_
  refine wpl_icmp (a := 553) (b := 523) rfl (by decide) rfl rfl (wpl_br (p := x20 < (6 : Int32)) ⟨fun hc165 => ?_, fun hc165 => ?_⟩)
  · have h166 := h.1 hc165
    refine wpl_sl (n := 4) (pc' := 530) (ls' := [some (.ref 0), none, some (.int x2), some (.ref 1), some (.int x4), some (.int x5), some (.int x6), some (.int x7), some (.long x8), none, some (.long x10), none, some (.long x12), none, some (.int x14), some (.int x15), some (.int x16), some (.int x17), some (.long x18), none, some (.int x20), none, none, none, none]) (st' := [.int x20, .int x15, .ref 1, .long x18]) rfl ?_
    refine wpl_v1 (m' := 14) (me' := cm14) (as := [.int x15, .int x20]) (r := [.long x18]) rfl rfl rfl rfl rfl ⟨by decide, (by first | decide | exact Nat.le_of_ble_eq_true rfl), (by first | decide | exact Nat.le_of_ble_eq_true rfl), rfl⟩ (cal_I (calI.mono h166 fun v169 s168 h170 => ?_))
    refine wpl_sl (n := 5) (pc' := 539) (ls' := [some (.ref 0), none, some (.int x2), some (.ref 1), some (.int x4), some (.int x5), some (.int x6), some (.int x7), some (.long x8), none, some (.long x10), none, some (.long x12), none, some (.int x14), some (.int x15), some (.int x16), some (.int x17), some (.long x18), none, some (.int x20), none, none, none, none]) (st' := [.long (Int32.toInt64 ((v169 + (1 : Int32)) &&& (7 : Int32))), .long x18]) rfl ?_
    refine wpl_sl (n := 5) (pc' := 545) (ls' := [some (.ref 0), none, some (.int x2), some (.ref 1), some (.int x4), some (.int x5), some (.int x6), some (.int x7), some (.long x8), none, some (.long x10), none, some (.long x12), none, some (.int x14), some (.int x15), some (.int x16), some (.int x17), some (.long x18), none, some (.int x20), none, none, none, none]) (st' := [.long (x18 ||| ((Int32.toInt64 ((v169 + (1 : Int32)) &&& (7 : Int32))) <<< ((((3 : Int32) * x20)).toInt64 &&& 63)))]) rfl ?_
    refine wpl_sl (n := 3) (pc' := 516) (ls' := [some (.ref 0), none, some (.int x2), some (.ref 1), some (.int x4), some (.int x5), some (.int x6), some (.int x7), some (.long x8), none, some (.long x10), none, some (.long x12), none, some (.int x14), some (.int x15), some (.int x16), some (.int x17), some (.long (x18 ||| ((Int32.toInt64 ((v169 + (1 : Int32)) &&& (7 : Int32))) <<< ((((3 : Int32) * x20)).toInt64 &&& 63)))), none, some (.int (x20 + (1 : Int32))), none, none, none, none]) (st' := []) rfl ?_
    exact h170
  · have h167 := h.2 hc165
    refine wpl_sl (n := 2) (pc' := 556) (ls' := [some (.ref 0), none, some (.int x2), some (.ref 1), some (.int x4), some (.int x5), some (.int x6), some (.int x7), some (.long x8), none, some (.long x10), none, some (.long x12), none, some (.int x14), some (.int x15), some (.int x16), some (.int x17), some (.long x18), none, some (.int x20), none, none, none, none]) (st' := [.int (4 : Int32), .int x16]) rfl ?_
    refine wpl_icmp (a := 610) (b := 559) rfl (by decide) rfl rfl (wpl_br (p := x16 = (4 : Int32)) ⟨fun hc171 => ?_, fun hc171 => ?_⟩)
    · have h172 := h167.1 hc171
      refine wpl_sl (n := 2) (pc' := 562) (ls' := [some (.ref 0), none, some (.int x2), some (.ref 1), some (.int x4), some (.int x5), some (.int x6), some (.int x7), some (.long x8), none, some (.long x10), none, some (.long x12), none, some (.int x14), some (.int x15), some (.int x16), some (.int x17), some (.long x18), none, some (.int (0 : Int32)), none, none, none, none]) (st' := []) rfl ?_
      exact h172
    · have h173 := h167.2 hc171
      exact wpl_lle (ls := [some (.ref 0), none, some (.int x2), some (.ref 1), some (.int x4), some (.int x5), some (.int x6), some (.int x7), some (.long x8), none, some (.long x10), none, some (.long x12), none, some (.int x14), some (.int x15), some (.int x16), some (.int x17), some (.long x18), none, none, none, none, none, none]) ⟨rfl, rfl, rfl, rfl, rfl, rfl, rfl, rfl, rfl, rfl, rfl, rfl, rfl, rfl, rfl, trivial⟩ h173
theorem l0_448 (N : Nat) (sg : Nat → Int32) (x2 : Int32) (x4 : Int32) (x5 : Int32) (x6 : Int32) (x7 : Int32) (x8 : Int64) (x10 : Int64) (x12 : Int64) (x14 : Int32) (x15 : Int32) (x16 : Int64) (x18 : Int32) (x19 : Int32) (x20 : Int32)  (Q : Int32 → Wd → Prop) (h : wplI PP QQ (some (N, sg)) 0 lm0 393 [some (.ref 0), none, some (.int x2), some (.ref 1), some (.int x4), some (.int x5), some (.int x6), some (.int x7), some (.long x8), none, some (.long x10), none, some (.long x12), none, some (.int x14), some (.int x15), some (.long x16), none, some (.int x18), some (.int x19), some (.int (x20 + (1 : Int32))), none, none, none, none] [] (W1 s) Q) : wplI PP QQ (some (N, sg)) 0 lm0 448 [some (.ref 0), none, some (.int x2), some (.ref 1), some (.int x4), some (.int x5), some (.int x6), some (.int x7), some (.long x8), none, some (.long x10), none, some (.long x12), none, some (.int x14), some (.int x15), some (.long x16), none, some (.int x18), some (.int x19), some (.int x20), none, none, none, none] [] (W1 s) Q := by
  refine wpl_sl (n := 2) (pc' := 393) (ls' := [some (.ref 0), none, some (.int x2), some (.ref 1), some (.int x4), some (.int x5), some (.int x6), some (.int x7), some (.long x8), none, some (.long x10), none, some (.long x12), none, some (.int x14), some (.int x15), some (.long x16), none, some (.int x18), some (.int x19), some (.int (x20 + (1 : Int32))), none, none, none, none]) (st' := []) rfl ?_
  exact h
theorem l0_454 (N : Nat) (sg : Nat → Int32) (x2 : Int32) (x4 : Int32) (x5 : Int32) (x6 : Int32) (x7 : Int32) (x8 : Int64) (x10 : Int64) (x12 : Int64) (x14 : Int32) (x15 : Int32) (x16 : Int64) (x18 : Int32)  (Q : Int32 → Wd → Prop) (h : wplI PP QQ (some (N, sg)) 0 lm0 375 [some (.ref 0), none, some (.int x2), some (.ref 1), some (.int x4), some (.int x5), some (.int x6), some (.int x7), some (.long x8), none, some (.long x10), none, some (.long x12), none, some (.int x14), some (.int x15), some (.long x16), none, some (.int (x18 + (1 : Int32))), none, none, none, none, none, none] [] (W1 s) Q) : wplI PP QQ (some (N, sg)) 0 lm0 454 [some (.ref 0), none, some (.int x2), some (.ref 1), some (.int x4), some (.int x5), some (.int x6), some (.int x7), some (.long x8), none, some (.long x10), none, some (.long x12), none, some (.int x14), some (.int x15), some (.long x16), none, some (.int x18), none, none, none, none, none, none] [] (W1 s) Q := by
  refine wpl_sl (n := 2) (pc' := 375) (ls' := [some (.ref 0), none, some (.int x2), some (.ref 1), some (.int x4), some (.int x5), some (.int x6), some (.int x7), some (.long x8), none, some (.long x10), none, some (.long x12), none, some (.int x14), some (.int x15), some (.long x16), none, some (.int (x18 + (1 : Int32))), none, none, none, none, none, none]) (st' := []) rfl ?_
  exact h
theorem l0_562 (N : Nat) (sg : Nat → Int32) (x2 : Int32) (x4 : Int32) (x5 : Int32) (x6 : Int32) (x7 : Int32) (x8 : Int64) (x10 : Int64) (x12 : Int64) (x14 : Int32) (x15 : Int32) (x16 : Int32) (x17 : Int32) (x18 : Int64) (x20 : Int32)  (Q : Int32 → Wd → Prop) (h : ((x20 < x17) → ((x20 < (6 : Int32)) → calI PP 14 12 [.ref 0, .int x15, .int x20] s (fun v181 s180 => ((v181 = (1 : Int32)) → calI PP 13 12 [.ref 0, .int x15, .int x20] s180 (fun v187 s186 => ((v187 = (2 : Int32)) → wplI PP QQ (some (N, sg)) 0 lm0 562 [some (.ref 0), none, some (.int x2), some (.ref 1), some (.int x4), some (.int x5), some (.int x6), some (.int x7), some (.long x8), none, some (.long x10), none, some (.long x12), none, some (.int x14), some (.int x15), some (.int x16), some (.int x17), some (.long x18), none, some (.int (x20 + (1 : Int32))), none, none, none, none] [] (W1 s186) Q) ∧ (¬ (v187 = (2 : Int32)) → Q (0 : Int32) (W1 s186)))) ∧ (¬ (v181 = (1 : Int32)) → Q (0 : Int32) (W1 s180)))) ∧ (¬ (x20 < (6 : Int32)) → wplI PP QQ (some (N, sg)) 0 lm0 610 [some (.ref 0), none, some (.int x2), some (.ref 1), some (.int x4), some (.int x5), some (.int x6), some (.int x7), some (.long x8), none, some (.long x10), none, some (.long x12), none, some (.int x14), some (.int x15), some (.int x16), some (.int x17), some (.long x18), none, none, none, none, none, none] [] (W1 s) Q)) ∧ (¬ (x20 < x17) → wplI PP QQ (some (N, sg)) 0 lm0 610 [some (.ref 0), none, some (.int x2), some (.ref 1), some (.int x4), some (.int x5), some (.int x6), some (.int x7), some (.long x8), none, some (.long x10), none, some (.long x12), none, some (.int x14), some (.int x15), some (.int x16), some (.int x17), some (.long x18), none, none, none, none, none, none] [] (W1 s) Q)) : wplI PP QQ (some (N, sg)) 0 lm0 562 [some (.ref 0), none, some (.int x2), some (.ref 1), some (.int x4), some (.int x5), some (.int x6), some (.int x7), some (.long x8), none, some (.long x10), none, some (.long x12), none, some (.int x14), some (.int x15), some (.int x16), some (.int x17), some (.long x18), none, some (.int x20), none, none, none, none] [] (W1 s) Q := by
  refine wpl_sl (n := 2) (pc' := 566) (ls' := [some (.ref 0), none, some (.int x2), some (.ref 1), some (.int x4), some (.int x5), some (.int x6), some (.int x7), some (.long x8), none, some (.long x10), none, some (.long x12), none, some (.int x14), some (.int x15), some (.int x16), some (.int x17), some (.long x18), none, some (.int x20), none, none, none, none]) (st' := [.int x17, .int x20]) rfl ?_
  refine wpl_icmp (a := 610) (b := 569) rfl (by decide) rfl rfl (wpl_br (p := x20 < x17) ⟨fun hc174 => ?_, fun hc174 => ?_⟩)
  · have h175 := h.1 hc174
    refine wpl_sl (n := 2) (pc' := 573) (ls' := [some (.ref 0), none, some (.int x2), some (.ref 1), some (.int x4), some (.int x5), some (.int x6), some (.int x7), some (.long x8), none, some (.long x10), none, some (.long x12), none, some (.int x14), some (.int x15), some (.int x16), some (.int x17), some (.long x18), none, some (.int x20), none, none, none, none]) (st' := [.int (6 : Int32), .int x20]) rfl ?_
    refine wpl_icmp (a := 610) (b := 576) rfl (by decide) rfl rfl (wpl_br (p := x20 < (6 : Int32)) ⟨fun hc177 => ?_, fun hc177 => ?_⟩)
    · have h178 := h175.1 hc177
      refine wpl_sl (n := 3) (pc' := 581) (ls' := [some (.ref 0), none, some (.int x2), some (.ref 1), some (.int x4), some (.int x5), some (.int x6), some (.int x7), some (.long x8), none, some (.long x10), none, some (.long x12), none, some (.int x14), some (.int x15), some (.int x16), some (.int x17), some (.long x18), none, some (.int x20), none, none, none, none]) (st' := [.int x20, .int x15, .ref 1]) rfl ?_
      refine wpl_v1 (m' := 14) (me' := cm14) (as := [.int x15, .int x20]) (r := []) rfl rfl rfl rfl rfl ⟨by decide, (by first | decide | exact Nat.le_of_ble_eq_true rfl), (by first | decide | exact Nat.le_of_ble_eq_true rfl), rfl⟩ (cal_I (calI.mono h178 fun v181 s180 h182 => ?_))
      refine wpl_sl (n := 1) (pc' := 585) (ls' := [some (.ref 0), none, some (.int x2), some (.ref 1), some (.int x4), some (.int x5), some (.int x6), some (.int x7), some (.long x8), none, some (.long x10), none, some (.long x12), none, some (.int x14), some (.int x15), some (.int x16), some (.int x17), some (.long x18), none, some (.int x20), none, none, none, none]) (st' := [.int (1 : Int32), .int v181]) rfl ?_
      refine wpl_icmp (a := 590) (b := 588) rfl (by decide) rfl rfl (wpl_br (p := v181 = (1 : Int32)) ⟨fun hc183 => ?_, fun hc183 => ?_⟩)
      · have h184 := h182.1 hc183
        refine wpl_sl (n := 3) (pc' := 595) (ls' := [some (.ref 0), none, some (.int x2), some (.ref 1), some (.int x4), some (.int x5), some (.int x6), some (.int x7), some (.long x8), none, some (.long x10), none, some (.long x12), none, some (.int x14), some (.int x15), some (.int x16), some (.int x17), some (.long x18), none, some (.int x20), none, none, none, none]) (st' := [.int x20, .int x15, .ref 1]) rfl ?_
        refine wpl_v1 (m' := 13) (me' := cm13) (as := [.int x15, .int x20]) (r := []) rfl rfl rfl rfl rfl ⟨by decide, (by first | decide | exact Nat.le_of_ble_eq_true rfl), (by first | decide | exact Nat.le_of_ble_eq_true rfl), rfl⟩ (cal_I (calI.mono h184 fun v187 s186 h188 => ?_))
        refine wpl_sl (n := 1) (pc' := 599) (ls' := [some (.ref 0), none, some (.int x2), some (.ref 1), some (.int x4), some (.int x5), some (.int x6), some (.int x7), some (.long x8), none, some (.long x10), none, some (.long x12), none, some (.int x14), some (.int x15), some (.int x16), some (.int x17), some (.long x18), none, some (.int x20), none, none, none, none]) (st' := [.int (2 : Int32), .int v187]) rfl ?_
        refine wpl_icmp (a := 604) (b := 602) rfl (by decide) rfl rfl (wpl_br (p := v187 = (2 : Int32)) ⟨fun hc189 => ?_, fun hc189 => ?_⟩)
        · have h190 := h188.1 hc189
          refine wpl_sl (n := 2) (pc' := 562) (ls' := [some (.ref 0), none, some (.int x2), some (.ref 1), some (.int x4), some (.int x5), some (.int x6), some (.int x7), some (.long x8), none, some (.long x10), none, some (.long x12), none, some (.int x14), some (.int x15), some (.int x16), some (.int x17), some (.long x18), none, some (.int (x20 + (1 : Int32))), none, none, none, none]) (st' := []) rfl ?_
          exact h190
        · have h191 := h188.2 hc189
          refine wpl_sl (n := 1) (pc' := 603) (ls' := [some (.ref 0), none, some (.int x2), some (.ref 1), some (.int x4), some (.int x5), some (.int x6), some (.int x7), some (.long x8), none, some (.long x10), none, some (.long x12), none, some (.int x14), some (.int x15), some (.int x16), some (.int x17), some (.long x18), none, some (.int x20), none, none, none, none]) (st' := [.int (0 : Int32)]) rfl ?_
          exact wpl_ret rfl rfl rfl ⟨(0 : Int32), rfl, h191⟩
      · have h185 := h182.2 hc183
        refine wpl_sl (n := 1) (pc' := 589) (ls' := [some (.ref 0), none, some (.int x2), some (.ref 1), some (.int x4), some (.int x5), some (.int x6), some (.int x7), some (.long x8), none, some (.long x10), none, some (.long x12), none, some (.int x14), some (.int x15), some (.int x16), some (.int x17), some (.long x18), none, some (.int x20), none, none, none, none]) (st' := [.int (0 : Int32)]) rfl ?_
        exact wpl_ret rfl rfl rfl ⟨(0 : Int32), rfl, h185⟩
    · have h179 := h175.2 hc177
      exact wpl_lle (ls := [some (.ref 0), none, some (.int x2), some (.ref 1), some (.int x4), some (.int x5), some (.int x6), some (.int x7), some (.long x8), none, some (.long x10), none, some (.long x12), none, some (.int x14), some (.int x15), some (.int x16), some (.int x17), some (.long x18), none, none, none, none, none, none]) ⟨rfl, rfl, rfl, rfl, rfl, rfl, rfl, rfl, rfl, rfl, rfl, rfl, rfl, rfl, rfl, trivial⟩ h179
  · have h176 := h.2 hc174
    exact wpl_lle (ls := [some (.ref 0), none, some (.int x2), some (.ref 1), some (.int x4), some (.int x5), some (.int x6), some (.int x7), some (.long x8), none, some (.long x10), none, some (.long x12), none, some (.int x14), some (.int x15), some (.int x16), some (.int x17), some (.long x18), none, none, none, none, none, none]) ⟨rfl, rfl, rfl, rfl, rfl, rfl, rfl, rfl, rfl, rfl, rfl, rfl, rfl, rfl, rfl, trivial⟩ h176
theorem l0_610 (N : Nat) (sg : Nat → Int32) (x2 : Int32) (x4 : Int32) (x5 : Int32) (x6 : Int32) (x7 : Int32) (x8 : Int64) (x10 : Int64) (x12 : Int64) (x14 : Int32) (x15 : Int32) (x16 : Int32) (x17 : Int32) (x18 : Int64)  (Q : Int32 → Wd → Prop) (h : ((x16 = (5 : Int32)) → wplI PP QQ (some (N, sg)) 0 lm0 619 [some (.ref 0), none, some (.int x2), some (.ref 1), some (.int x4), some (.int x5), some (.int x6), some (.int x7), some (.long x8), none, some (.long x10), none, some (.long x12), none, some (.int x14), some (.int x15), some (.int x16), some (.int x17), some (.long x18), none, some (.int (0 : Int32)), none, none, none, none] [] (W1 s) Q) ∧ (¬ (x16 = (5 : Int32)) → wplI PP QQ (some (N, sg)) 0 lm0 653 [some (.ref 0), none, some (.int x2), some (.ref 1), some (.int x4), some (.int x5), some (.int x6), some (.int x7), some (.long x8), none, some (.long x10), none, some (.long x12), none, some (.int x14), some (.int x15), some (.int x16), none, some (.long x18), none, none, none, none, none, none] [] (W1 s) Q)) : wplI PP QQ (some (N, sg)) 0 lm0 610 [some (.ref 0), none, some (.int x2), some (.ref 1), some (.int x4), some (.int x5), some (.int x6), some (.int x7), some (.long x8), none, some (.long x10), none, some (.long x12), none, some (.int x14), some (.int x15), some (.int x16), some (.int x17), some (.long x18), none, none, none, none, none, none] [] (W1 s) Q := by
  refine wpl_sl (n := 2) (pc' := 613) (ls' := [some (.ref 0), none, some (.int x2), some (.ref 1), some (.int x4), some (.int x5), some (.int x6), some (.int x7), some (.long x8), none, some (.long x10), none, some (.long x12), none, some (.int x14), some (.int x15), some (.int x16), some (.int x17), some (.long x18), none, none, none, none, none, none]) (st' := [.int (5 : Int32), .int x16]) rfl ?_
  refine wpl_icmp (a := 653) (b := 616) rfl (by decide) rfl rfl (wpl_br (p := x16 = (5 : Int32)) ⟨fun hc192 => ?_, fun hc192 => ?_⟩)
  · have h193 := h.1 hc192
    refine wpl_sl (n := 2) (pc' := 619) (ls' := [some (.ref 0), none, some (.int x2), some (.ref 1), some (.int x4), some (.int x5), some (.int x6), some (.int x7), some (.long x8), none, some (.long x10), none, some (.long x12), none, some (.int x14), some (.int x15), some (.int x16), some (.int x17), some (.long x18), none, some (.int (0 : Int32)), none, none, none, none]) (st' := []) rfl ?_
    exact h193
  · have h194 := h.2 hc192
    exact wpl_lle (ls := [some (.ref 0), none, some (.int x2), some (.ref 1), some (.int x4), some (.int x5), some (.int x6), some (.int x7), some (.long x8), none, some (.long x10), none, some (.long x12), none, some (.int x14), some (.int x15), some (.int x16), none, some (.long x18), none, none, none, none, none, none]) ⟨rfl, rfl, rfl, rfl, rfl, rfl, rfl, rfl, rfl, rfl, rfl, rfl, rfl, rfl, trivial⟩ h194
theorem l0_619 (N : Nat) (sg : Nat → Int32) (x2 : Int32) (x4 : Int32) (x5 : Int32) (x6 : Int32) (x7 : Int32) (x8 : Int64) (x10 : Int64) (x12 : Int64) (x14 : Int32) (x15 : Int32) (x16 : Int32) (x17 : Int32) (x18 : Int64) (x20 : Int32)  (Q : Int32 → Wd → Prop) (h : ((x20 < x17) → ((x20 < (6 : Int32)) → calI PP 14 12 [.ref 0, .int x15, .int x20] s (fun v202 s201 => ((v202 = (1 : Int32)) → Q (0 : Int32) (W1 s201)) ∧ (¬ (v202 = (1 : Int32)) → wplI PP QQ (some (N, sg)) 0 lm0 619 [some (.ref 0), none, some (.int x2), some (.ref 1), some (.int x4), some (.int x5), some (.int x6), some (.int x7), some (.long x8), none, some (.long x10), none, some (.long x12), none, some (.int x14), some (.int x15), some (.int x16), some (.int x17), some (.long x18), none, some (.int (x20 + (1 : Int32))), none, none, none, none] [] (W1 s201) Q))) ∧ (¬ (x20 < (6 : Int32)) → wplI PP QQ (some (N, sg)) 0 lm0 653 [some (.ref 0), none, some (.int x2), some (.ref 1), some (.int x4), some (.int x5), some (.int x6), some (.int x7), some (.long x8), none, some (.long x10), none, some (.long x12), none, some (.int x14), some (.int x15), some (.int x16), none, some (.long x18), none, none, none, none, none, none] [] (W1 s) Q)) ∧ (¬ (x20 < x17) → wplI PP QQ (some (N, sg)) 0 lm0 653 [some (.ref 0), none, some (.int x2), some (.ref 1), some (.int x4), some (.int x5), some (.int x6), some (.int x7), some (.long x8), none, some (.long x10), none, some (.long x12), none, some (.int x14), some (.int x15), some (.int x16), none, some (.long x18), none, none, none, none, none, none] [] (W1 s) Q)) : wplI PP QQ (some (N, sg)) 0 lm0 619 [some (.ref 0), none, some (.int x2), some (.ref 1), some (.int x4), some (.int x5), some (.int x6), some (.int x7), some (.long x8), none, some (.long x10), none, some (.long x12), none, some (.int x14), some (.int x15), some (.int x16), some (.int x17), some (.long x18), none, some (.int x20), none, none, none, none] [] (W1 s) Q := by
  refine wpl_sl (n := 2) (pc' := 623) (ls' := [some (.ref 0), none, some (.int x2), some (.ref 1), some (.int x4), some (.int x5), some (.int x6), some (.int x7), some (.long x8), none, some (.long x10), none, some (.long x12), none, some (.int x14), some (.int x15), some (.int x16), some (.int x17), some (.long x18), none, some (.int x20), none, none, none, none]) (st' := [.int x17, .int x20]) rfl ?_
  refine wpl_icmp (a := 653) (b := 626) rfl (by decide) rfl rfl (wpl_br (p := x20 < x17) ⟨fun hc195 => ?_, fun hc195 => ?_⟩)
  · have h196 := h.1 hc195
    refine wpl_sl (n := 2) (pc' := 630) (ls' := [some (.ref 0), none, some (.int x2), some (.ref 1), some (.int x4), some (.int x5), some (.int x6), some (.int x7), some (.long x8), none, some (.long x10), none, some (.long x12), none, some (.int x14), some (.int x15), some (.int x16), some (.int x17), some (.long x18), none, some (.int x20), none, none, none, none]) (st' := [.int (6 : Int32), .int x20]) rfl ?_
    refine wpl_icmp (a := 653) (b := 633) rfl (by decide) rfl rfl (wpl_br (p := x20 < (6 : Int32)) ⟨fun hc198 => ?_, fun hc198 => ?_⟩)
    · have h199 := h196.1 hc198
      refine wpl_sl (n := 3) (pc' := 638) (ls' := [some (.ref 0), none, some (.int x2), some (.ref 1), some (.int x4), some (.int x5), some (.int x6), some (.int x7), some (.long x8), none, some (.long x10), none, some (.long x12), none, some (.int x14), some (.int x15), some (.int x16), some (.int x17), some (.long x18), none, some (.int x20), none, none, none, none]) (st' := [.int x20, .int x15, .ref 1]) rfl ?_
      refine wpl_v1 (m' := 14) (me' := cm14) (as := [.int x15, .int x20]) (r := []) rfl rfl rfl rfl rfl ⟨by decide, (by first | decide | exact Nat.le_of_ble_eq_true rfl), (by first | decide | exact Nat.le_of_ble_eq_true rfl), rfl⟩ (cal_I (calI.mono h199 fun v202 s201 h203 => ?_))
      refine wpl_sl (n := 1) (pc' := 642) (ls' := [some (.ref 0), none, some (.int x2), some (.ref 1), some (.int x4), some (.int x5), some (.int x6), some (.int x7), some (.long x8), none, some (.long x10), none, some (.long x12), none, some (.int x14), some (.int x15), some (.int x16), some (.int x17), some (.long x18), none, some (.int x20), none, none, none, none]) (st' := [.int (1 : Int32), .int v202]) rfl ?_
      refine wpl_icmp (a := 647) (b := 645) rfl (by decide) rfl rfl (wpl_br (p := v202 = (1 : Int32)) ⟨fun hc204 => ?_, fun hc204 => ?_⟩)
      · have h205 := h203.1 hc204
        refine wpl_sl (n := 1) (pc' := 646) (ls' := [some (.ref 0), none, some (.int x2), some (.ref 1), some (.int x4), some (.int x5), some (.int x6), some (.int x7), some (.long x8), none, some (.long x10), none, some (.long x12), none, some (.int x14), some (.int x15), some (.int x16), some (.int x17), some (.long x18), none, some (.int x20), none, none, none, none]) (st' := [.int (0 : Int32)]) rfl ?_
        exact wpl_ret rfl rfl rfl ⟨(0 : Int32), rfl, h205⟩
      · have h206 := h203.2 hc204
        refine wpl_sl (n := 2) (pc' := 619) (ls' := [some (.ref 0), none, some (.int x2), some (.ref 1), some (.int x4), some (.int x5), some (.int x6), some (.int x7), some (.long x8), none, some (.long x10), none, some (.long x12), none, some (.int x14), some (.int x15), some (.int x16), some (.int x17), some (.long x18), none, some (.int (x20 + (1 : Int32))), none, none, none, none]) (st' := []) rfl ?_
        exact h206
    · have h200 := h196.2 hc198
      exact wpl_lle (ls := [some (.ref 0), none, some (.int x2), some (.ref 1), some (.int x4), some (.int x5), some (.int x6), some (.int x7), some (.long x8), none, some (.long x10), none, some (.long x12), none, some (.int x14), some (.int x15), some (.int x16), none, some (.long x18), none, none, none, none, none, none]) ⟨rfl, rfl, rfl, rfl, rfl, rfl, rfl, rfl, rfl, rfl, rfl, rfl, rfl, rfl, trivial⟩ h200
  · have h197 := h.2 hc195
    exact wpl_lle (ls := [some (.ref 0), none, some (.int x2), some (.ref 1), some (.int x4), some (.int x5), some (.int x6), some (.int x7), some (.long x8), none, some (.long x10), none, some (.long x12), none, some (.int x14), some (.int x15), some (.int x16), none, some (.long x18), none, none, none, none, none, none]) ⟨rfl, rfl, rfl, rfl, rfl, rfl, rfl, rfl, rfl, rfl, rfl, rfl, rfl, rfl, trivial⟩ h197
theorem l0_653 (N : Nat) (sg : Nat → Int32) (x2 : Int32) (x4 : Int32) (x5 : Int32) (x6 : Int32) (x7 : Int32) (x8 : Int64) (x10 : Int64) (x12 : Int64) (x14 : Int32) (x15 : Int32) (x16 : Int32) (x18 : Int64)  (Q : Int32 → Wd → Prop) (h : ∀ m207, m207 = (if x15 < (3 : Int32) then x8 else (if x15 < (6 : Int32) then x10 else x12)) → (((((x6 >>> (x15 &&& 31)) &&& (1 : Int32)) = (0 : Int32)) → ∀ m213, m213 = (if x16 = (4 : Int32) then (x6 ||| ((1 : Int32) <<< (x15 &&& 31))) else (if x16 = (5 : Int32) then (x6 ||| ((1 : Int32) <<< (x15 &&& 31))) else x6)) → ∀ m214, m214 = (if x16 = (4 : Int32) then (x7 ||| (x16 <<< (((3 : Int32) * x15) &&& 31))) else (if x16 = (5 : Int32) then (x7 ||| (x16 <<< (((3 : Int32) * x15) &&& 31))) else x7)) → ∀ m215, m215 = (if x16 = (4 : Int32) then (if x15 < (3 : Int32) then (x8 ||| (x18 <<< ((((x15 % (3 : Int32)) * (18 : Int32))).toInt64 &&& 63))) else x8) else (if x16 = (5 : Int32) then (if x15 < (3 : Int32) then (x8 ||| (x18 <<< ((((x15 % (3 : Int32)) * (18 : Int32))).toInt64 &&& 63))) else x8) else x8)) → ∀ m216, m216 = (if x16 = (4 : Int32) then (if x15 < (3 : Int32) then x10 else (if x15 < (6 : Int32) then (x10 ||| (x18 <<< ((((x15 % (3 : Int32)) * (18 : Int32))).toInt64 &&& 63))) else x10)) else (if x16 = (5 : Int32) then (if x15 < (3 : Int32) then x10 else (if x15 < (6 : Int32) then (x10 ||| (x18 <<< ((((x15 % (3 : Int32)) * (18 : Int32))).toInt64 &&& 63))) else x10)) else x10)) → ∀ m217, m217 = (if x16 = (4 : Int32) then (if x15 < (3 : Int32) then x12 else (if x15 < (6 : Int32) then x12 else (x12 ||| (x18 <<< ((((x15 % (3 : Int32)) * (18 : Int32))).toInt64 &&& 63))))) else (if x16 = (5 : Int32) then (if x15 < (3 : Int32) then x12 else (if x15 < (6 : Int32) then x12 else (x12 ||| (x18 <<< ((((x15 % (3 : Int32)) * (18 : Int32))).toInt64 &&& 63))))) else x12)) → (wplI PP QQ (some (N, sg)) 0 lm0 817 [some (.ref 0), none, some (.int x2), some (.ref 1), some (.int x4), some (.int x5), some (.int m213), some (.int m214), some (.long m215), none, some (.long m216), none, some (.long m217), none, some (.int x14), some (.int x15), none, none, none, none, none, none, none, none, none] [] (W1 s) Q)) ∧ (¬ (((x6 >>> (x15 &&& 31)) &&& (1 : Int32)) = (0 : Int32)) → (((XT.cmpL ((XT.ushrL m207 ((x15 % (3 : Int32)) * (18 : Int32))) &&& (262143 : Int64)) x18) = (0 : Int32)) → ((((x7 >>> (((3 : Int32) * x15) &&& 31)) &&& (7 : Int32)) = x16) → wplI PP QQ (some (N, sg)) 0 lm0 817 [some (.ref 0), none, some (.int x2), some (.ref 1), some (.int x4), some (.int x5), some (.int x6), some (.int x7), some (.long x8), none, some (.long x10), none, some (.long x12), none, some (.int x14), some (.int x15), none, none, none, none, none, none, none, none, none] [] (W1 s) Q) ∧ (¬ (((x7 >>> (((3 : Int32) * x15) &&& 31)) &&& (7 : Int32)) = x16) → Q (0 : Int32) (W1 s))) ∧ (¬ ((XT.cmpL ((XT.ushrL m207 ((x15 % (3 : Int32)) * (18 : Int32))) &&& (262143 : Int64)) x18) = (0 : Int32)) → Q (0 : Int32) (W1 s))))) : wplI PP QQ (some (N, sg)) 0 lm0 653 [some (.ref 0), none, some (.int x2), some (.ref 1), some (.int x4), some (.int x5), some (.int x6), some (.int x7), some (.long x8), none, some (.long x10), none, some (.long x12), none, some (.int x14), some (.int x15), some (.int x16), none, some (.long x18), none, none, none, none, none, none] [] (W1 s) Q := by
  refine wpl_sl (n := 8) (pc' := 665) (ls' := [some (.ref 0), none, some (.int x2), some (.ref 1), some (.int x4), some (.int x5), some (.int x6), some (.int x7), some (.long x8), none, some (.long x10), none, some (.long x12), none, some (.int x14), some (.int x15), some (.int x16), none, some (.long x18), none, some (.int ((x15 % (3 : Int32)) * (18 : Int32))), none, none, none, none]) (st' := [.int (3 : Int32), .int x15]) rfl ?_
  have hm208 : ∀ m207, m207 = (if x15 < (3 : Int32) then x8 else (if x15 < (6 : Int32) then x10 else x12)) → wplI PP QQ (some (N, sg)) 0 lm0 687 [some (.ref 0), none, some (.int x2), some (.ref 1), some (.int x4), some (.int x5), some (.int x6), some (.int x7), some (.long x8), none, some (.long x10), none, some (.long x12), none, some (.int x14), some (.int x15), some (.int x16), none, some (.long x18), none, some (.int ((x15 % (3 : Int32)) * (18 : Int32))), none, none, none, none] [.long m207] (W1 s) Q := by
    intro m207 em207
    have h209 := h m207 em207
    refine wpl_sl (n := 5) (pc' := 697) (ls' := [some (.ref 0), none, some (.int x2), some (.ref 1), some (.int x4), some (.int x5), some (.int x6), some (.int x7), some (.long x8), none, some (.long x10), none, some (.long x12), none, some (.int x14), some (.int x15), some (.int x16), none, some (.long x18), none, some (.int ((x15 % (3 : Int32)) * (18 : Int32))), some (.long m207), none, none, none]) (st' := [.long (262143 : Int64), .long (XT.ushrL m207 ((x15 % (3 : Int32)) * (18 : Int32)))]) rfl ?_
    refine wpl_sl (n := 5) (pc' := 705) (ls' := [some (.ref 0), none, some (.int x2), some (.ref 1), some (.int x4), some (.int x5), some (.int x6), some (.int x7), some (.long x8), none, some (.long x10), none, some (.long x12), none, some (.int x14), some (.int x15), some (.int x16), none, some (.long x18), none, some (.int ((x15 % (3 : Int32)) * (18 : Int32))), some (.long m207), none, some (.long ((XT.ushrL m207 ((x15 % (3 : Int32)) * (18 : Int32))) &&& (262143 : Int64))), none]) (st' := [.int (x6 >>> (x15 &&& 31))]) rfl ?_
    refine wpl_sl (n := 2) (pc' := 707) (ls' := [some (.ref 0), none, some (.int x2), some (.ref 1), some (.int x4), some (.int x5), some (.int x6), some (.int x7), some (.long x8), none, some (.long x10), none, some (.long x12), none, some (.int x14), some (.int x15), some (.int x16), none, some (.long x18), none, some (.int ((x15 % (3 : Int32)) * (18 : Int32))), some (.long m207), none, some (.long ((XT.ushrL m207 ((x15 % (3 : Int32)) * (18 : Int32))) &&& (262143 : Int64))), none]) (st' := [.int ((x6 >>> (x15 &&& 31)) &&& (1 : Int32))]) rfl ?_
    refine wpl_if (a := 735) (b := 710) rfl (by decide) rfl rfl (wpl_br (p := ((x6 >>> (x15 &&& 31)) &&& (1 : Int32)) = (0 : Int32)) ⟨fun hc210 => ?_, fun hc210 => ?_⟩)
    · have h211 := h209.1 hc210
      refine wpl_sl (n := 2) (pc' := 738) (ls' := [some (.ref 0), none, some (.int x2), some (.ref 1), some (.int x4), some (.int x5), some (.int x6), some (.int x7), some (.long x8), none, some (.long x10), none, some (.long x12), none, some (.int x14), some (.int x15), some (.int x16), none, some (.long x18), none, some (.int ((x15 % (3 : Int32)) * (18 : Int32))), some (.long m207), none, some (.long ((XT.ushrL m207 ((x15 % (3 : Int32)) * (18 : Int32))) &&& (262143 : Int64))), none]) (st' := [.int (4 : Int32), .int x16]) rfl ?_
      have hm218 : ∀ m213, m213 = (if x16 = (4 : Int32) then (x6 ||| ((1 : Int32) <<< (x15 &&& 31))) else (if x16 = (5 : Int32) then (x6 ||| ((1 : Int32) <<< (x15 &&& 31))) else x6)) → ∀ m214, m214 = (if x16 = (4 : Int32) then (x7 ||| (x16 <<< (((3 : Int32) * x15) &&& 31))) else (if x16 = (5 : Int32) then (x7 ||| (x16 <<< (((3 : Int32) * x15) &&& 31))) else x7)) → ∀ m215, m215 = (if x16 = (4 : Int32) then (if x15 < (3 : Int32) then (x8 ||| (x18 <<< ((((x15 % (3 : Int32)) * (18 : Int32))).toInt64 &&& 63))) else x8) else (if x16 = (5 : Int32) then (if x15 < (3 : Int32) then (x8 ||| (x18 <<< ((((x15 % (3 : Int32)) * (18 : Int32))).toInt64 &&& 63))) else x8) else x8)) → ∀ m216, m216 = (if x16 = (4 : Int32) then (if x15 < (3 : Int32) then x10 else (if x15 < (6 : Int32) then (x10 ||| (x18 <<< ((((x15 % (3 : Int32)) * (18 : Int32))).toInt64 &&& 63))) else x10)) else (if x16 = (5 : Int32) then (if x15 < (3 : Int32) then x10 else (if x15 < (6 : Int32) then (x10 ||| (x18 <<< ((((x15 % (3 : Int32)) * (18 : Int32))).toInt64 &&& 63))) else x10)) else x10)) → ∀ m217, m217 = (if x16 = (4 : Int32) then (if x15 < (3 : Int32) then x12 else (if x15 < (6 : Int32) then x12 else (x12 ||| (x18 <<< ((((x15 % (3 : Int32)) * (18 : Int32))).toInt64 &&& 63))))) else (if x16 = (5 : Int32) then (if x15 < (3 : Int32) then x12 else (if x15 < (6 : Int32) then x12 else (x12 ||| (x18 <<< ((((x15 % (3 : Int32)) * (18 : Int32))).toInt64 &&& 63))))) else x12)) → wplI PP QQ (some (N, sg)) 0 lm0 817 [some (.ref 0), none, some (.int x2), some (.ref 1), some (.int x4), some (.int x5), some (.int m213), some (.int m214), some (.long m215), none, some (.long m216), none, some (.long m217), none, some (.int x14), some (.int x15), some (.int x16), none, some (.long x18), none, some (.int ((x15 % (3 : Int32)) * (18 : Int32))), some (.long m207), none, some (.long ((XT.ushrL m207 ((x15 % (3 : Int32)) * (18 : Int32))) &&& (262143 : Int64))), none] [] (W1 s) Q := by
        intro m213 em213 m214 em214 m215 em215 m216 em216 m217 em217
        have h219 := h211 m213 em213 m214 em214 m215 em215 m216 em216 m217 em217
        exact wpl_lle (ls := [some (.ref 0), none, some (.int x2), some (.ref 1), some (.int x4), some (.int x5), some (.int m213), some (.int m214), some (.long m215), none, some (.long m216), none, some (.long m217), none, some (.int x14), some (.int x15), none, none, none, none, none, none, none, none, none]) ⟨rfl, rfl, rfl, rfl, rfl, rfl, rfl, rfl, rfl, rfl, rfl, rfl, trivial⟩ h219
      refine wpl_icmp (a := 747) (b := 741) rfl (by decide) rfl rfl (wpl_br (p := x16 = (4 : Int32)) ⟨fun hc220 => ?_, fun hc220 => ?_⟩)
      · refine wpl_sl (n := 5) (pc' := 754) (ls' := [some (.ref 0), none, some (.int x2), some (.ref 1), some (.int x4), some (.int x5), some (.int x6), some (.int x7), some (.long x8), none, some (.long x10), none, some (.long x12), none, some (.int x14), some (.int x15), some (.int x16), none, some (.long x18), none, some (.int ((x15 % (3 : Int32)) * (18 : Int32))), some (.long m207), none, some (.long ((XT.ushrL m207 ((x15 % (3 : Int32)) * (18 : Int32))) &&& (262143 : Int64))), none]) (st' := [.int (x6 ||| ((1 : Int32) <<< (x15 &&& 31)))]) rfl ?_
        refine wpl_sl (n := 5) (pc' := 763) (ls' := [some (.ref 0), none, some (.int x2), some (.ref 1), some (.int x4), some (.int x5), some (.int (x6 ||| ((1 : Int32) <<< (x15 &&& 31)))), some (.int x7), some (.long x8), none, some (.long x10), none, some (.long x12), none, some (.int x14), some (.int x15), some (.int x16), none, some (.long x18), none, some (.int ((x15 % (3 : Int32)) * (18 : Int32))), some (.long m207), none, some (.long ((XT.ushrL m207 ((x15 % (3 : Int32)) * (18 : Int32))) &&& (262143 : Int64))), none]) (st' := [.int x15, .int (3 : Int32), .int x16, .int x7]) rfl ?_
        refine wpl_sl (n := 5) (pc' := 770) (ls' := [some (.ref 0), none, some (.int x2), some (.ref 1), some (.int x4), some (.int x5), some (.int (x6 ||| ((1 : Int32) <<< (x15 &&& 31)))), some (.int (x7 ||| (x16 <<< (((3 : Int32) * x15) &&& 31)))), some (.long x8), none, some (.long x10), none, some (.long x12), none, some (.int x14), some (.int x15), some (.int x16), none, some (.long x18), none, some (.int ((x15 % (3 : Int32)) * (18 : Int32))), some (.long m207), none, some (.long ((XT.ushrL m207 ((x15 % (3 : Int32)) * (18 : Int32))) &&& (262143 : Int64))), none]) (st' := [.int x15]) rfl ?_
        refine wpl_sl (n := 1) (pc' := 771) (ls' := [some (.ref 0), none, some (.int x2), some (.ref 1), some (.int x4), some (.int x5), some (.int (x6 ||| ((1 : Int32) <<< (x15 &&& 31)))), some (.int (x7 ||| (x16 <<< (((3 : Int32) * x15) &&& 31)))), some (.long x8), none, some (.long x10), none, some (.long x12), none, some (.int x14), some (.int x15), some (.int x16), none, some (.long x18), none, some (.int ((x15 % (3 : Int32)) * (18 : Int32))), some (.long m207), none, some (.long ((XT.ushrL m207 ((x15 % (3 : Int32)) * (18 : Int32))) &&& (262143 : Int64))), none]) (st' := [.int (3 : Int32), .int x15]) rfl ?_
        refine wpl_icmp (a := 787) (b := 774) rfl (by decide) rfl rfl (wpl_br (p := x15 < (3 : Int32)) ⟨fun hc221 => ?_, fun hc221 => ?_⟩)
        · refine wpl_sl (n := 7) (pc' := 817) (ls' := [some (.ref 0), none, some (.int x2), some (.ref 1), some (.int x4), some (.int x5), some (.int (x6 ||| ((1 : Int32) <<< (x15 &&& 31)))), some (.int (x7 ||| (x16 <<< (((3 : Int32) * x15) &&& 31)))), some (.long (x8 ||| (x18 <<< ((((x15 % (3 : Int32)) * (18 : Int32))).toInt64 &&& 63)))), none, some (.long x10), none, some (.long x12), none, some (.int x14), some (.int x15), some (.int x16), none, some (.long x18), none, some (.int ((x15 % (3 : Int32)) * (18 : Int32))), some (.long m207), none, some (.long ((XT.ushrL m207 ((x15 % (3 : Int32)) * (18 : Int32))) &&& (262143 : Int64))), none]) (st' := []) rfl ?_
          first | exact hm218 _ (by simp only [if_pos hc220, if_pos hc221]) _ (by simp only [if_pos hc220, if_pos hc221]) _ (by simp only [if_pos hc220, if_pos hc221]) _ (by simp only [if_pos hc220, if_pos hc221]) _ (by simp only [if_pos hc220, if_pos hc221]) | exact wpl_lle (by repeat (first | exact trivial | refine ⟨rfl, ?_⟩)) (hm218 _ (by simp only [if_pos hc220, if_pos hc221]) _ (by simp only [if_pos hc220, if_pos hc221]) _ (by simp only [if_pos hc220, if_pos hc221]) _ (by simp only [if_pos hc220, if_pos hc221]) _ (by simp only [if_pos hc220, if_pos hc221]))
        · refine wpl_sl (n := 2) (pc' := 791) (ls' := [some (.ref 0), none, some (.int x2), some (.ref 1), some (.int x4), some (.int x5), some (.int (x6 ||| ((1 : Int32) <<< (x15 &&& 31)))), some (.int (x7 ||| (x16 <<< (((3 : Int32) * x15) &&& 31)))), some (.long x8), none, some (.long x10), none, some (.long x12), none, some (.int x14), some (.int x15), some (.int x16), none, some (.long x18), none, some (.int ((x15 % (3 : Int32)) * (18 : Int32))), some (.long m207), none, some (.long ((XT.ushrL m207 ((x15 % (3 : Int32)) * (18 : Int32))) &&& (262143 : Int64))), none]) (st' := [.int (6 : Int32), .int x15]) rfl ?_
          refine wpl_icmp (a := 807) (b := 794) rfl (by decide) rfl rfl (wpl_br (p := x15 < (6 : Int32)) ⟨fun hc222 => ?_, fun hc222 => ?_⟩)
          · refine wpl_sl (n := 7) (pc' := 817) (ls' := [some (.ref 0), none, some (.int x2), some (.ref 1), some (.int x4), some (.int x5), some (.int (x6 ||| ((1 : Int32) <<< (x15 &&& 31)))), some (.int (x7 ||| (x16 <<< (((3 : Int32) * x15) &&& 31)))), some (.long x8), none, some (.long (x10 ||| (x18 <<< ((((x15 % (3 : Int32)) * (18 : Int32))).toInt64 &&& 63)))), none, some (.long x12), none, some (.int x14), some (.int x15), some (.int x16), none, some (.long x18), none, some (.int ((x15 % (3 : Int32)) * (18 : Int32))), some (.long m207), none, some (.long ((XT.ushrL m207 ((x15 % (3 : Int32)) * (18 : Int32))) &&& (262143 : Int64))), none]) (st' := []) rfl ?_
            first | exact hm218 _ (by simp only [if_pos hc220, if_neg hc221, if_pos hc222]) _ (by simp only [if_pos hc220, if_neg hc221, if_pos hc222]) _ (by simp only [if_pos hc220, if_neg hc221, if_pos hc222]) _ (by simp only [if_pos hc220, if_neg hc221, if_pos hc222]) _ (by simp only [if_pos hc220, if_neg hc221, if_pos hc222]) | exact wpl_lle (by repeat (first | exact trivial | refine ⟨rfl, ?_⟩)) (hm218 _ (by simp only [if_pos hc220, if_neg hc221, if_pos hc222]) _ (by simp only [if_pos hc220, if_neg hc221, if_pos hc222]) _ (by simp only [if_pos hc220, if_neg hc221, if_pos hc222]) _ (by simp only [if_pos hc220, if_neg hc221, if_pos hc222]) _ (by simp only [if_pos hc220, if_neg hc221, if_pos hc222]))
          · refine wpl_sl (n := 6) (pc' := 817) (ls' := [some (.ref 0), none, some (.int x2), some (.ref 1), some (.int x4), some (.int x5), some (.int (x6 ||| ((1 : Int32) <<< (x15 &&& 31)))), some (.int (x7 ||| (x16 <<< (((3 : Int32) * x15) &&& 31)))), some (.long x8), none, some (.long x10), none, some (.long (x12 ||| (x18 <<< ((((x15 % (3 : Int32)) * (18 : Int32))).toInt64 &&& 63)))), none, some (.int x14), some (.int x15), some (.int x16), none, some (.long x18), none, some (.int ((x15 % (3 : Int32)) * (18 : Int32))), some (.long m207), none, some (.long ((XT.ushrL m207 ((x15 % (3 : Int32)) * (18 : Int32))) &&& (262143 : Int64))), none]) (st' := []) rfl ?_
            first | exact hm218 _ (by simp only [if_pos hc220, if_neg hc221, if_neg hc222]) _ (by simp only [if_pos hc220, if_neg hc221, if_neg hc222]) _ (by simp only [if_pos hc220, if_neg hc221, if_neg hc222]) _ (by simp only [if_pos hc220, if_neg hc221, if_neg hc222]) _ (by simp only [if_pos hc220, if_neg hc221, if_neg hc222]) | exact wpl_lle (by repeat (first | exact trivial | refine ⟨rfl, ?_⟩)) (hm218 _ (by simp only [if_pos hc220, if_neg hc221, if_neg hc222]) _ (by simp only [if_pos hc220, if_neg hc221, if_neg hc222]) _ (by simp only [if_pos hc220, if_neg hc221, if_neg hc222]) _ (by simp only [if_pos hc220, if_neg hc221, if_neg hc222]) _ (by simp only [if_pos hc220, if_neg hc221, if_neg hc222]))
      · refine wpl_sl (n := 2) (pc' := 744) (ls' := [some (.ref 0), none, some (.int x2), some (.ref 1), some (.int x4), some (.int x5), some (.int x6), some (.int x7), some (.long x8), none, some (.long x10), none, some (.long x12), none, some (.int x14), some (.int x15), some (.int x16), none, some (.long x18), none, some (.int ((x15 % (3 : Int32)) * (18 : Int32))), some (.long m207), none, some (.long ((XT.ushrL m207 ((x15 % (3 : Int32)) * (18 : Int32))) &&& (262143 : Int64))), none]) (st' := [.int (5 : Int32), .int x16]) rfl ?_
        refine wpl_icmp (a := 817) (b := 747) rfl (by decide) rfl rfl (wpl_br (p := x16 = (5 : Int32)) ⟨fun hc223 => ?_, fun hc223 => ?_⟩)
        · refine wpl_sl (n := 5) (pc' := 754) (ls' := [some (.ref 0), none, some (.int x2), some (.ref 1), some (.int x4), some (.int x5), some (.int x6), some (.int x7), some (.long x8), none, some (.long x10), none, some (.long x12), none, some (.int x14), some (.int x15), some (.int x16), none, some (.long x18), none, some (.int ((x15 % (3 : Int32)) * (18 : Int32))), some (.long m207), none, some (.long ((XT.ushrL m207 ((x15 % (3 : Int32)) * (18 : Int32))) &&& (262143 : Int64))), none]) (st' := [.int (x6 ||| ((1 : Int32) <<< (x15 &&& 31)))]) rfl ?_
          refine wpl_sl (n := 5) (pc' := 763) (ls' := [some (.ref 0), none, some (.int x2), some (.ref 1), some (.int x4), some (.int x5), some (.int (x6 ||| ((1 : Int32) <<< (x15 &&& 31)))), some (.int x7), some (.long x8), none, some (.long x10), none, some (.long x12), none, some (.int x14), some (.int x15), some (.int x16), none, some (.long x18), none, some (.int ((x15 % (3 : Int32)) * (18 : Int32))), some (.long m207), none, some (.long ((XT.ushrL m207 ((x15 % (3 : Int32)) * (18 : Int32))) &&& (262143 : Int64))), none]) (st' := [.int x15, .int (3 : Int32), .int x16, .int x7]) rfl ?_
          refine wpl_sl (n := 5) (pc' := 770) (ls' := [some (.ref 0), none, some (.int x2), some (.ref 1), some (.int x4), some (.int x5), some (.int (x6 ||| ((1 : Int32) <<< (x15 &&& 31)))), some (.int (x7 ||| (x16 <<< (((3 : Int32) * x15) &&& 31)))), some (.long x8), none, some (.long x10), none, some (.long x12), none, some (.int x14), some (.int x15), some (.int x16), none, some (.long x18), none, some (.int ((x15 % (3 : Int32)) * (18 : Int32))), some (.long m207), none, some (.long ((XT.ushrL m207 ((x15 % (3 : Int32)) * (18 : Int32))) &&& (262143 : Int64))), none]) (st' := [.int x15]) rfl ?_
          refine wpl_sl (n := 1) (pc' := 771) (ls' := [some (.ref 0), none, some (.int x2), some (.ref 1), some (.int x4), some (.int x5), some (.int (x6 ||| ((1 : Int32) <<< (x15 &&& 31)))), some (.int (x7 ||| (x16 <<< (((3 : Int32) * x15) &&& 31)))), some (.long x8), none, some (.long x10), none, some (.long x12), none, some (.int x14), some (.int x15), some (.int x16), none, some (.long x18), none, some (.int ((x15 % (3 : Int32)) * (18 : Int32))), some (.long m207), none, some (.long ((XT.ushrL m207 ((x15 % (3 : Int32)) * (18 : Int32))) &&& (262143 : Int64))), none]) (st' := [.int (3 : Int32), .int x15]) rfl ?_
          refine wpl_icmp (a := 787) (b := 774) rfl (by decide) rfl rfl (wpl_br (p := x15 < (3 : Int32)) ⟨fun hc224 => ?_, fun hc224 => ?_⟩)
          · refine wpl_sl (n := 7) (pc' := 817) (ls' := [some (.ref 0), none, some (.int x2), some (.ref 1), some (.int x4), some (.int x5), some (.int (x6 ||| ((1 : Int32) <<< (x15 &&& 31)))), some (.int (x7 ||| (x16 <<< (((3 : Int32) * x15) &&& 31)))), some (.long (x8 ||| (x18 <<< ((((x15 % (3 : Int32)) * (18 : Int32))).toInt64 &&& 63)))), none, some (.long x10), none, some (.long x12), none, some (.int x14), some (.int x15), some (.int x16), none, some (.long x18), none, some (.int ((x15 % (3 : Int32)) * (18 : Int32))), some (.long m207), none, some (.long ((XT.ushrL m207 ((x15 % (3 : Int32)) * (18 : Int32))) &&& (262143 : Int64))), none]) (st' := []) rfl ?_
            first | exact hm218 _ (by simp only [if_neg hc220, if_pos hc223, if_pos hc224]) _ (by simp only [if_neg hc220, if_pos hc223, if_pos hc224]) _ (by simp only [if_neg hc220, if_pos hc223, if_pos hc224]) _ (by simp only [if_neg hc220, if_pos hc223, if_pos hc224]) _ (by simp only [if_neg hc220, if_pos hc223, if_pos hc224]) | exact wpl_lle (by repeat (first | exact trivial | refine ⟨rfl, ?_⟩)) (hm218 _ (by simp only [if_neg hc220, if_pos hc223, if_pos hc224]) _ (by simp only [if_neg hc220, if_pos hc223, if_pos hc224]) _ (by simp only [if_neg hc220, if_pos hc223, if_pos hc224]) _ (by simp only [if_neg hc220, if_pos hc223, if_pos hc224]) _ (by simp only [if_neg hc220, if_pos hc223, if_pos hc224]))
          · refine wpl_sl (n := 2) (pc' := 791) (ls' := [some (.ref 0), none, some (.int x2), some (.ref 1), some (.int x4), some (.int x5), some (.int (x6 ||| ((1 : Int32) <<< (x15 &&& 31)))), some (.int (x7 ||| (x16 <<< (((3 : Int32) * x15) &&& 31)))), some (.long x8), none, some (.long x10), none, some (.long x12), none, some (.int x14), some (.int x15), some (.int x16), none, some (.long x18), none, some (.int ((x15 % (3 : Int32)) * (18 : Int32))), some (.long m207), none, some (.long ((XT.ushrL m207 ((x15 % (3 : Int32)) * (18 : Int32))) &&& (262143 : Int64))), none]) (st' := [.int (6 : Int32), .int x15]) rfl ?_
            refine wpl_icmp (a := 807) (b := 794) rfl (by decide) rfl rfl (wpl_br (p := x15 < (6 : Int32)) ⟨fun hc225 => ?_, fun hc225 => ?_⟩)
            · refine wpl_sl (n := 7) (pc' := 817) (ls' := [some (.ref 0), none, some (.int x2), some (.ref 1), some (.int x4), some (.int x5), some (.int (x6 ||| ((1 : Int32) <<< (x15 &&& 31)))), some (.int (x7 ||| (x16 <<< (((3 : Int32) * x15) &&& 31)))), some (.long x8), none, some (.long (x10 ||| (x18 <<< ((((x15 % (3 : Int32)) * (18 : Int32))).toInt64 &&& 63)))), none, some (.long x12), none, some (.int x14), some (.int x15), some (.int x16), none, some (.long x18), none, some (.int ((x15 % (3 : Int32)) * (18 : Int32))), some (.long m207), none, some (.long ((XT.ushrL m207 ((x15 % (3 : Int32)) * (18 : Int32))) &&& (262143 : Int64))), none]) (st' := []) rfl ?_
              first | exact hm218 _ (by simp only [if_neg hc220, if_pos hc223, if_neg hc224, if_pos hc225]) _ (by simp only [if_neg hc220, if_pos hc223, if_neg hc224, if_pos hc225]) _ (by simp only [if_neg hc220, if_pos hc223, if_neg hc224, if_pos hc225]) _ (by simp only [if_neg hc220, if_pos hc223, if_neg hc224, if_pos hc225]) _ (by simp only [if_neg hc220, if_pos hc223, if_neg hc224, if_pos hc225]) | exact wpl_lle (by repeat (first | exact trivial | refine ⟨rfl, ?_⟩)) (hm218 _ (by simp only [if_neg hc220, if_pos hc223, if_neg hc224, if_pos hc225]) _ (by simp only [if_neg hc220, if_pos hc223, if_neg hc224, if_pos hc225]) _ (by simp only [if_neg hc220, if_pos hc223, if_neg hc224, if_pos hc225]) _ (by simp only [if_neg hc220, if_pos hc223, if_neg hc224, if_pos hc225]) _ (by simp only [if_neg hc220, if_pos hc223, if_neg hc224, if_pos hc225]))
            · refine wpl_sl (n := 6) (pc' := 817) (ls' := [some (.ref 0), none, some (.int x2), some (.ref 1), some (.int x4), some (.int x5), some (.int (x6 ||| ((1 : Int32) <<< (x15 &&& 31)))), some (.int (x7 ||| (x16 <<< (((3 : Int32) * x15) &&& 31)))), some (.long x8), none, some (.long x10), none, some (.long (x12 ||| (x18 <<< ((((x15 % (3 : Int32)) * (18 : Int32))).toInt64 &&& 63)))), none, some (.int x14), some (.int x15), some (.int x16), none, some (.long x18), none, some (.int ((x15 % (3 : Int32)) * (18 : Int32))), some (.long m207), none, some (.long ((XT.ushrL m207 ((x15 % (3 : Int32)) * (18 : Int32))) &&& (262143 : Int64))), none]) (st' := []) rfl ?_
              first | exact hm218 _ (by simp only [if_neg hc220, if_pos hc223, if_neg hc224, if_neg hc225]) _ (by simp only [if_neg hc220, if_pos hc223, if_neg hc224, if_neg hc225]) _ (by simp only [if_neg hc220, if_pos hc223, if_neg hc224, if_neg hc225]) _ (by simp only [if_neg hc220, if_pos hc223, if_neg hc224, if_neg hc225]) _ (by simp only [if_neg hc220, if_pos hc223, if_neg hc224, if_neg hc225]) | exact wpl_lle (by repeat (first | exact trivial | refine ⟨rfl, ?_⟩)) (hm218 _ (by simp only [if_neg hc220, if_pos hc223, if_neg hc224, if_neg hc225]) _ (by simp only [if_neg hc220, if_pos hc223, if_neg hc224, if_neg hc225]) _ (by simp only [if_neg hc220, if_pos hc223, if_neg hc224, if_neg hc225]) _ (by simp only [if_neg hc220, if_pos hc223, if_neg hc224, if_neg hc225]) _ (by simp only [if_neg hc220, if_pos hc223, if_neg hc224, if_neg hc225]))
        · first | exact hm218 _ (by simp only [if_neg hc220, if_neg hc223]) _ (by simp only [if_neg hc220, if_neg hc223]) _ (by simp only [if_neg hc220, if_neg hc223]) _ (by simp only [if_neg hc220, if_neg hc223]) _ (by simp only [if_neg hc220, if_neg hc223]) | exact wpl_lle (by repeat (first | exact trivial | refine ⟨rfl, ?_⟩)) (hm218 _ (by simp only [if_neg hc220, if_neg hc223]) _ (by simp only [if_neg hc220, if_neg hc223]) _ (by simp only [if_neg hc220, if_neg hc223]) _ (by simp only [if_neg hc220, if_neg hc223]) _ (by simp only [if_neg hc220, if_neg hc223]))
    · have h212 := h209.2 hc210
      refine wpl_sl (n := 3) (pc' := 715) (ls' := [some (.ref 0), none, some (.int x2), some (.ref 1), some (.int x4), some (.int x5), some (.int x6), some (.int x7), some (.long x8), none, some (.long x10), none, some (.long x12), none, some (.int x14), some (.int x15), some (.int x16), none, some (.long x18), none, some (.int ((x15 % (3 : Int32)) * (18 : Int32))), some (.long m207), none, some (.long ((XT.ushrL m207 ((x15 % (3 : Int32)) * (18 : Int32))) &&& (262143 : Int64))), none]) (st' := [.int (XT.cmpL ((XT.ushrL m207 ((x15 % (3 : Int32)) * (18 : Int32))) &&& (262143 : Int64)) x18)]) rfl ?_
      refine wpl_if (a := 733) (b := 718) rfl (by decide) rfl rfl (wpl_br (p := (XT.cmpL ((XT.ushrL m207 ((x15 % (3 : Int32)) * (18 : Int32))) &&& (262143 : Int64)) x18) = (0 : Int32)) ⟨fun hc226 => ?_, fun hc226 => ?_⟩)
      · have h227 := h212.1 hc226
        refine wpl_sl (n := 8) (pc' := 730) (ls' := [some (.ref 0), none, some (.int x2), some (.ref 1), some (.int x4), some (.int x5), some (.int x6), some (.int x7), some (.long x8), none, some (.long x10), none, some (.long x12), none, some (.int x14), some (.int x15), some (.int x16), none, some (.long x18), none, some (.int ((x15 % (3 : Int32)) * (18 : Int32))), some (.long m207), none, some (.long ((XT.ushrL m207 ((x15 % (3 : Int32)) * (18 : Int32))) &&& (262143 : Int64))), none]) (st' := [.int x16, .int ((x7 >>> (((3 : Int32) * x15) &&& 31)) &&& (7 : Int32))]) rfl ?_
        refine wpl_icmp (a := 817) (b := 733) rfl (by decide) rfl rfl (wpl_br (p := ((x7 >>> (((3 : Int32) * x15) &&& 31)) &&& (7 : Int32)) = x16) ⟨fun hc229 => ?_, fun hc229 => ?_⟩)
        · have h230 := h227.1 hc229
          exact wpl_lle (ls := [some (.ref 0), none, some (.int x2), some (.ref 1), some (.int x4), some (.int x5), some (.int x6), some (.int x7), some (.long x8), none, some (.long x10), none, some (.long x12), none, some (.int x14), some (.int x15), none, none, none, none, none, none, none, none, none]) ⟨rfl, rfl, rfl, rfl, rfl, rfl, rfl, rfl, rfl, rfl, rfl, rfl, trivial⟩ h230
        · have h231 := h227.2 hc229
          refine wpl_sl (n := 1) (pc' := 734) (ls' := [some (.ref 0), none, some (.int x2), some (.ref 1), some (.int x4), some (.int x5), some (.int x6), some (.int x7), some (.long x8), none, some (.long x10), none, some (.long x12), none, some (.int x14), some (.int x15), some (.int x16), none, some (.long x18), none, some (.int ((x15 % (3 : Int32)) * (18 : Int32))), some (.long m207), none, some (.long ((XT.ushrL m207 ((x15 % (3 : Int32)) * (18 : Int32))) &&& (262143 : Int64))), none]) (st' := [.int (0 : Int32)]) rfl ?_
          exact wpl_ret rfl rfl rfl ⟨(0 : Int32), rfl, h231⟩
      · have h228 := h212.2 hc226
        refine wpl_sl (n := 1) (pc' := 734) (ls' := [some (.ref 0), none, some (.int x2), some (.ref 1), some (.int x4), some (.int x5), some (.int x6), some (.int x7), some (.long x8), none, some (.long x10), none, some (.long x12), none, some (.int x14), some (.int x15), some (.int x16), none, some (.long x18), none, some (.int ((x15 % (3 : Int32)) * (18 : Int32))), some (.long m207), none, some (.long ((XT.ushrL m207 ((x15 % (3 : Int32)) * (18 : Int32))) &&& (262143 : Int64))), none]) (st' := [.int (0 : Int32)]) rfl ?_
        exact wpl_ret rfl rfl rfl ⟨(0 : Int32), rfl, h228⟩
  refine wpl_icmp (a := 673) (b := 668) rfl (by decide) rfl rfl (wpl_br (p := x15 < (3 : Int32)) ⟨fun hc232 => ?_, fun hc232 => ?_⟩)
  · refine wpl_sl (n := 2) (pc' := 687) (ls' := [some (.ref 0), none, some (.int x2), some (.ref 1), some (.int x4), some (.int x5), some (.int x6), some (.int x7), some (.long x8), none, some (.long x10), none, some (.long x12), none, some (.int x14), some (.int x15), some (.int x16), none, some (.long x18), none, some (.int ((x15 % (3 : Int32)) * (18 : Int32))), none, none, none, none]) (st' := [.long x8]) rfl ?_
    first | exact hm208 _ (by simp only [if_pos hc232]) | exact wpl_lle (by repeat (first | exact trivial | refine ⟨rfl, ?_⟩)) (hm208 _ (by simp only [if_pos hc232]))
  · refine wpl_sl (n := 2) (pc' := 677) (ls' := [some (.ref 0), none, some (.int x2), some (.ref 1), some (.int x4), some (.int x5), some (.int x6), some (.int x7), some (.long x8), none, some (.long x10), none, some (.long x12), none, some (.int x14), some (.int x15), some (.int x16), none, some (.long x18), none, some (.int ((x15 % (3 : Int32)) * (18 : Int32))), none, none, none, none]) (st' := [.int (6 : Int32), .int x15]) rfl ?_
    refine wpl_icmp (a := 685) (b := 680) rfl (by decide) rfl rfl (wpl_br (p := x15 < (6 : Int32)) ⟨fun hc233 => ?_, fun hc233 => ?_⟩)
    · refine wpl_sl (n := 2) (pc' := 687) (ls' := [some (.ref 0), none, some (.int x2), some (.ref 1), some (.int x4), some (.int x5), some (.int x6), some (.int x7), some (.long x8), none, some (.long x10), none, some (.long x12), none, some (.int x14), some (.int x15), some (.int x16), none, some (.long x18), none, some (.int ((x15 % (3 : Int32)) * (18 : Int32))), none, none, none, none]) (st' := [.long x10]) rfl ?_
      first | exact hm208 _ (by simp only [if_neg hc232, if_pos hc233]) | exact wpl_lle (by repeat (first | exact trivial | refine ⟨rfl, ?_⟩)) (hm208 _ (by simp only [if_neg hc232, if_pos hc233]))
    · refine wpl_sl (n := 1) (pc' := 687) (ls' := [some (.ref 0), none, some (.int x2), some (.ref 1), some (.int x4), some (.int x5), some (.int x6), some (.int x7), some (.long x8), none, some (.long x10), none, some (.long x12), none, some (.int x14), some (.int x15), some (.int x16), none, some (.long x18), none, some (.int ((x15 % (3 : Int32)) * (18 : Int32))), none, none, none, none]) (st' := [.long x12]) rfl ?_
      first | exact hm208 _ (by simp only [if_neg hc232, if_neg hc233]) | exact wpl_lle (by repeat (first | exact trivial | refine ⟨rfl, ?_⟩)) (hm208 _ (by simp only [if_neg hc232, if_neg hc233]))
theorem l0_817 (N : Nat) (sg : Nat → Int32) (x2 : Int32) (x4 : Int32) (x5 : Int32) (x6 : Int32) (x7 : Int32) (x8 : Int64) (x10 : Int64) (x12 : Int64) (x14 : Int32) (x15 : Int32)  (Q : Int32 → Wd → Prop) (h : wplI PP QQ (some (N, sg)) 0 lm0 487 [some (.ref 0), none, some (.int x2), some (.ref 1), some (.int x4), some (.int x5), some (.int x6), some (.int x7), some (.long x8), none, some (.long x10), none, some (.long x12), none, some (.int x14), some (.int (x15 + (1 : Int32))), none, none, none, none, none, none, none, none, none] [] (W1 s) Q) : wplI PP QQ (some (N, sg)) 0 lm0 817 [some (.ref 0), none, some (.int x2), some (.ref 1), some (.int x4), some (.int x5), some (.int x6), some (.int x7), some (.long x8), none, some (.long x10), none, some (.long x12), none, some (.int x14), some (.int x15), none, none, none, none, none, none, none, none, none] [] (W1 s) Q := by
  refine wpl_sl (n := 2) (pc' := 487) (ls' := [some (.ref 0), none, some (.int x2), some (.ref 1), some (.int x4), some (.int x5), some (.int x6), some (.int x7), some (.long x8), none, some (.long x10), none, some (.long x12), none, some (.int x14), some (.int (x15 + (1 : Int32))), none, none, none, none, none, none, none, none, none]) (st' := []) rfl ?_
  exact h
theorem own_clamp (x lo hi : Int32) (s : St) (Q : Int32 → St → Prop) (h : Q (if x < lo then lo else if hi < x then hi else x) s) : calI PP 18 12 [.ref 0, .int x, .int lo, .int hi] s Q := by
  apply c18_in
  refine ⟨fun a => ?_, fun a => ⟨fun b => ?_, fun b => ?_⟩⟩
  · rw [if_pos a] at h; exact h
  · rw [if_neg a, if_pos b] at h; exact h
  · rw [if_neg a, if_neg b] at h; exact h
theorem own_cl_rng {x lo hi m : Int32} (h : lo.toInt ≤ hi.toInt) (e : m = if x < lo then lo else if hi < x then hi else x) : lo.toInt ≤ m.toInt ∧ m.toInt ≤ hi.toInt := by
  subst e
  split
  · omega
  · split
    · omega
    · simp only [i32_lt] at *; omega
theorem own_19 (s : St) (k : Int32) (hk : 0 ≤ k.toInt ∧ k.toInt < 8) (Q : Int32 → St → Prop) (h : Q 1 s) : calI PP 19 12 [.ref 0, .int k] s Q := by
  apply c19_in
  exact ⟨fun a => absurd a (by rw [i32_lt]; simp; omega), fun a => ⟨fun b => absurd b (by rw [i32_lt]; simp; omega), fun b => h⟩⟩
/-- a sum of the first -/
def own_sum (w : Nat → Int) : Nat → Int
  | 0 => 0
  | n + 1 => own_sum w n + w n
theorem own_sum_cg {w v : Nat → Int} : ∀ n, (∀ k, k < n → w k = v k) → own_sum w n = own_sum v n
  | 0, _ => rfl
  | n + 1, h => by
    show own_sum w n + w n = own_sum v n + v n
    rw [own_sum_cg n fun k hk => h k (by omega), h n (by omega)]
theorem own_sum_set {w v : Nat → Int} {k : Nat} (h : ∀ j, j ≠ k → v j = w j) : ∀ n, k < n → own_sum v n = own_sum w n + (v k - w k)
  | 0, hk => absurd hk (by omega)
  | n + 1, hk => by
    show own_sum v n + v n = own_sum w n + w n + (v k - w k)
    by_cases e : k = n
    · subst e; rw [own_sum_cg (w := v) (v := w) k fun j hj => h j (by omega)]; omega
    · rw [own_sum_set h n (by omega), h n (by omega)]; omega
theorem own_sum_nn {w : Nat → Int} (h : ∀ k, 0 ≤ w k) : ∀ n, 0 ≤ own_sum w n
  | 0 => Int.le_refl _
  | n + 1 => by
    show 0 ≤ own_sum w n + w n
    have := own_sum_nn h n; have := h n; omega
theorem own_sum_ge {w : Nat → Int} (h : ∀ k, 0 ≤ w k) {k : Nat} : ∀ n, k < n → w k ≤ own_sum w n
  | 0, hk => absurd hk (by omega)
  | n + 1, hk => by
    show w k ≤ own_sum w n + w n
    by_cases e : k = n
    · subst e; have := own_sum_nn h k; omega
    · have := own_sum_ge h n (by omega : k < n); have := h n; omega
/-- what entry k holds of participant p -/
def own_wt (s : St) (p k : Nat) : Int := if (gI s 9 k).toInt = p ∧ gI s 12 k = 1 then (gI s 10 k).toInt else 0
/-- the totals -/
def own_To (ini : Int) (s : St) : Prop := (∀ k, k < 48 → 0 ≤ (gI s 10 k).toInt ∧ (gI s 10 k).toInt ≤ 100) ∧ (∀ k, k < 48 → 0 ≤ (gI s 9 k).toInt ∧ (gI s 9 k).toInt ≤ 3) ∧ (∀ p, p < 4 → 0 ≤ (gI s 1 p).toInt ∧ (gI s 1 p).toInt + own_sum (own_wt s p) 48 = ini)
theorem own_To_cg {ini : Int} {s t : St} (T : own_To ini s) (h1 : ∀ j, gI t 1 j = gI s 1 j) (h9 : ∀ j, gI t 9 j = gI s 9 j) (h10 : ∀ j, gI t 10 j = gI s 10 j) (h12 : ∀ j, gI t 12 j = gI s 12 j) : own_To ini t := by
  have : ∀ p, own_wt t p = own_wt s p := fun p => funext fun k => by unfold own_wt; rw [h9, h10, h12]
  unfold own_To
  simp only [h1, h9, h10, this]
  exact T
theorem own_wt_nn {ini : Int} {s : St} (T : own_To ini s) (p : Nat) : ∀ n, n ≤ 48 → 0 ≤ own_sum (own_wt s p) n ∧ ∀ k, k < n → own_wt s p k ≤ own_sum (own_wt s p) n := fun n hn => by
  let v : Nat → Int := fun k => if k < 48 then own_wt s p k else 0
  have hv : ∀ k, 0 ≤ v k := fun k => by
    show 0 ≤ if k < 48 then own_wt s p k else 0
    by_cases z : k < 48
    · rw [if_pos z]; unfold own_wt
      by_cases y : (gI s 9 k).toInt = p ∧ gI s 12 k = 1
      · rw [if_pos y]; exact (T.1 k z).1
      · rw [if_neg y]; omega
    · rw [if_neg z]; omega
  have e : own_sum (own_wt s p) n = own_sum v n := own_sum_cg n fun k hk => by
    show own_wt s p k = if k < 48 then own_wt s p k else 0
    rw [if_pos (by omega)]
  rw [e]
  refine ⟨own_sum_nn hv n, fun k hk => ?_⟩
  have := own_sum_ge hv n hk
  have ek : v k = own_wt s p k := if_pos (by omega)
  omega
/-- an entry that changes, with its participant's total -/
theorem own_To_set {ini : Int} {s t : St} {k p : Nat} (T : own_To ini s) (hk : k < 48) (hp : (gI s 9 k).toInt = p) (tc : ∀ c j, c ≠ 1 → ¬ (c = 12 ∧ j = k) → gI t c j = gI s c j) (t1 : ∀ j, j ≠ p → gI t 1 j = gI s 1 j) (d : Int) (hd : (gI t 1 p).toInt = (gI s 1 p).toInt - d) (h0 : 0 ≤ (gI t 1 p).toInt) (hw : own_wt t p k - own_wt s p k = d) : own_To ini t := by
  refine ⟨fun j hj => by rw [tc 10 j (by decide) (by omega)]; exact T.1 j hj, fun j hj => by rw [tc 9 j (by decide) (by omega)]; exact T.2.1 j hj, fun q hq => ?_⟩
  have ne : ∀ r j, j ≠ k → own_wt t r j = own_wt s r j := fun r j hj => by unfold own_wt; rw [tc 9 j (by decide) (by omega), tc 10 j (by decide) (by omega), tc 12 j (by decide) (fun w => hj w.2)]
  have T3 := T.2.2 q hq
  by_cases e : q = p
  · subst e
    rw [own_sum_set (w := own_wt s q) (v := own_wt t q) (k := k) (ne q) 48 hk]
    omega
  · rw [t1 q e]
    have : own_sum (own_wt t q) 48 = own_sum (own_wt s q) 48 := own_sum_cg 48 fun j hj => by
      by_cases y : j = k
      · subst y; unfold own_wt; rw [tc 9 j (by decide) (by omega), if_neg (by omega), if_neg (by omega)]
      · exact ne q j y
    rw [this]; exact T3
/-- process -/
theorem own_29 (ini : Int) (s : St) (g i kd : Int32) (hg : 0 ≤ g.toInt ∧ g.toInt < 8) (hi : 0 ≤ i.toInt ∧ i.toInt < 6) (T : own_To ini s) (hini : ini ≤ 500) (Q : Int32 → St → Prop) (h : ∀ t, (∀ c j, c ≠ 1 → ¬ (c = 12 ∧ j = 6 * ix g + ix i) → gI t c j = gI s c j) → own_To ini t → (kd = 1 → (gI s 12 (6 * ix g + ix i) ≠ 0 → gI t 12 (6 * ix g + ix i) = gI s 12 (6 * ix g + ix i)) ∧ (gI s 12 (6 * ix g + ix i) = 0 → gI t 12 (6 * ix g + ix i) = 1 ∨ gI t 12 (6 * ix g + ix i) = 2)) → (¬ kd = 1 → (gI s 12 (6 * ix g + ix i) = 1 → gI t 12 (6 * ix g + ix i) = 3) ∧ (gI s 12 (6 * ix g + ix i) = 0 → gI t 12 (6 * ix g + ix i) = 4) ∧ (gI s 12 (6 * ix g + ix i) ≠ 0 → gI s 12 (6 * ix g + ix i) ≠ 1 → gI t 12 (6 * ix g + ix i) = gI s 12 (6 * ix g + ix i))) → Q (gI t 12 (6 * ix g + ix i)) t) : calI PP 29 12 [.ref 0, .int g, .int i, .int kd] s Q := by
  have xg := ix_int hg.1
  have xi := ix_int hi.1
  have e1 : (g * 6).toInt = g.toInt * 6 := by rw [i32_mul] <;> simp <;> omega
  have e2 : (g * 6 + i).toInt = g.toInt * 6 + i.toInt := by rw [i32_add] <;> rw [e1] <;> omega
  have xk := ix_int (i := g * 6 + i) (by omega)
  have ek : ix (g * 6 + i) = 6 * ix g + ix i := by omega
  have kb : inb 48 (g * 6 + i) := ⟨by omega, by show _ < (48 : Int); omega⟩
  have k48 : 6 * ix g + ix i < 48 := by omega
  generalize 6 * ix g + ix i = k at ek k48 h ⊢
  have T9 := T.2.1 k k48
  have T10 := T.1 k k48
  have xp := ix_int T9.1
  have T1 := T.2.2 (ix (gI s 9 k)) (by omega)
  have pb : inb 4 (gI s 9 k) := ⟨T9.1, by show _ < (4 : Int); omega⟩
  have p0 : ¬ gI s 9 k < 0 := by rw [i32_lt]; simp; omega
  have p3 : ¬ 3 < gI s 9 k := by rw [i32_lt]; simp; omega
  obtain ⟨nn, mem⟩ := own_wt_nn T (ix (gI s 9 k)) 48 (Nat.le_refl _)
  have wk := mem k k48
  apply c29_in
  refine c21_in _ _ _ _ ⟨fun k1 => ?_, fun k1 => ?_⟩
  · apply c30_in
    rw [ek]
    refine ⟨kb, fun z => ⟨kb, fun q => absurd q p0, fun _ => ⟨fun q => absurd q p3, fun _ => ⟨pb, kb, fun lt => ⟨kb, kb, ?_⟩, fun lt => ⟨pb, kb, pb, kb, kb, ?_⟩⟩⟩⟩, fun z => ⟨kb, h s (fun _ _ _ _ => rfl) T (fun _ => ⟨fun _ => rfl, fun q => absurd q z⟩) (fun q => absurd k1 q)⟩⟩
    · have t12 : gI (sI s 12 k 2) 12 k = 2 := by simp [gI_sI]
      refine h _ (fun c j a b => by rw [gI_sI, if_neg b]) (own_To_set T k48 xp.symm (fun c j a b => by rw [gI_sI, if_neg b]) (fun j _ => by rw [gI_sI, if_neg (by omega)]) 0 (by rw [gI_sI, if_neg (by omega)]; omega) (by rw [gI_sI, if_neg (by omega)]; exact T1.1) ?_) (fun _ => ⟨fun q => absurd z q, fun _ => Or.inr t12⟩) (fun q => absurd k1 q)
      unfold own_wt
      rw [if_neg (fun w => by rw [t12] at w; exact absurd w.2 (by decide)), if_neg (fun w => by rw [z] at w; exact absurd w.2 (by decide))]; rfl
    · rw [i32_lt] at lt
      have es : (gI s 1 (ix (gI s 9 k)) - gI s 10 k).toInt = (gI s 1 (ix (gI s 9 k))).toInt - (gI s 10 k).toInt := by rw [i32_sub] <;> omega
      generalize hu : sI (sI s 1 (ix (gI s 9 k)) (gI s 1 (ix (gI s 9 k)) - gI s 10 k)) 12 k 1 = u
      have uc : ∀ c j, c ≠ 1 → ¬ (c = 12 ∧ j = k) → gI u c j = gI s c j := fun c j a b => by subst hu; rw [gI_sI, if_neg b, gI_sI, if_neg (fun w => a w.1)]
      have u12 : gI u 12 k = 1 := by subst hu; simp [gI_sI]
      have u1 : ∀ j, gI u 1 j = if j = ix (gI s 9 k) then gI s 1 (ix (gI s 9 k)) - gI s 10 k else gI s 1 j := fun j => by subst hu; simp [gI_sI]
      refine h u uc (own_To_set T k48 xp.symm uc (fun j hj => by rw [u1, if_neg hj]) (gI s 10 k).toInt (by rw [u1, if_pos rfl, es]) (by rw [u1, if_pos rfl, es]; omega) ?_) (fun _ => ⟨fun q => absurd z q, fun _ => Or.inl u12⟩) (fun q => absurd k1 q)
      unfold own_wt
      rw [uc 9 _ (by decide) (by omega), uc 10 _ (by decide) (by omega), if_pos ⟨xp.symm, u12⟩, if_neg (fun w => by rw [z] at w; exact absurd w.2 (by decide))]; omega
  · apply c31_in
    rw [ek]
    refine ⟨kb, fun q => absurd q p0, fun _ => ⟨fun q => absurd q p3, fun _ => ⟨kb, fun z => ⟨pb, kb, pb, kb, kb, ?_⟩, fun z => ⟨kb, fun y => ⟨kb, kb, ?_⟩, fun y => ⟨kb, h s (fun _ _ _ _ => rfl) T (fun q => absurd q k1) (fun _ => ⟨fun q => absurd q z, fun q => absurd q y, fun _ _ => rfl⟩)⟩⟩⟩⟩⟩
    · have wk1 : own_wt s (ix (gI s 9 k)) k = (gI s 10 k).toInt := if_pos ⟨xp.symm, z⟩
      have es : (gI s 1 (ix (gI s 9 k)) + gI s 10 k).toInt = (gI s 1 (ix (gI s 9 k))).toInt + (gI s 10 k).toInt := by rw [i32_add] <;> omega
      generalize hu : sI (sI s 1 (ix (gI s 9 k)) (gI s 1 (ix (gI s 9 k)) + gI s 10 k)) 12 k 3 = u
      have uc : ∀ c j, c ≠ 1 → ¬ (c = 12 ∧ j = k) → gI u c j = gI s c j := fun c j a b => by subst hu; rw [gI_sI, if_neg b, gI_sI, if_neg (fun w => a w.1)]
      have u12 : gI u 12 k = 3 := by subst hu; simp [gI_sI]
      have u1 : ∀ j, gI u 1 j = if j = ix (gI s 9 k) then gI s 1 (ix (gI s 9 k)) + gI s 10 k else gI s 1 j := fun j => by subst hu; simp [gI_sI]
      refine h u uc (own_To_set T k48 xp.symm uc (fun j hj => by rw [u1, if_neg hj]) (-(gI s 10 k).toInt) (by rw [u1, if_pos rfl, es]; omega) (by rw [u1, if_pos rfl, es]; omega) ?_) (fun q => absurd q k1) (fun _ => ⟨fun _ => u12, fun q => absurd (z.symm.trans q) (by decide), fun _ q => absurd z q⟩)
      rw [wk1]
      unfold own_wt
      rw [if_neg (fun w => by rw [u12] at w; exact absurd w.2 (by decide))]; omega
    · have t12 : gI (sI s 12 k 4) 12 k = 4 := by simp [gI_sI]
      refine h _ (fun c j a b => by rw [gI_sI, if_neg b]) (own_To_set T k48 xp.symm (fun c j a b => by rw [gI_sI, if_neg b]) (fun j _ => by rw [gI_sI, if_neg (by omega)]) 0 (by rw [gI_sI, if_neg (by omega)]; omega) (by rw [gI_sI, if_neg (by omega)]; exact T1.1) ?_) (fun q => absurd q k1) (fun _ => ⟨fun q => absurd q z, fun _ => t12, fun q => absurd y q⟩)
      unfold own_wt
      rw [if_neg (fun w => by rw [t12] at w; exact absurd w.2 (by decide)), if_neg (fun w => z w.2)]; rfl

/-- the steps of a saga -/
def own_x (s : St) (g c i : Nat) : Int32 := if 9 ≤ c ∧ c ≤ 12 ∧ i < 6 then gI s c (6 * g + i) else 0
theorem own_x_at (s : St) {g c i : Nat} (h1 : 9 ≤ c) (h2 : c ≤ 12) (h3 : i < 6) : own_x s g c i = gI s c (6 * g + i) := if_pos ⟨h1, h2, h3⟩
def own_dn (x : Nat → Nat → Int32) (i : Nat) : Prop := x 11 i = 2 ∧ x 12 i = 1
def own_ab (x : Nat → Nat → Int32) (i : Nat) : Prop := ((x 11 i = 3 ∨ x 11 i = 5) ∧ x 12 i ≠ 0 ∧ x 12 i ≠ 1) ∨ (x 11 i = 0 ∧ x 12 i = 0)
def own_RU (fl ss sk sr : Int32) (x : Nat → Nat → Int32) (n c : Nat) : Prop := c < n ∧ (∀ i, i < c → own_dn x i) ∧ x 11 c = 1 ∧ (x 12 c = 0 ∨ x 12 c = 1 ∨ x 12 c = 2) ∧ (∀ i, c < i → i < n → x 11 i = 0 ∧ x 12 i = 0) ∧ (fl ≠ 0 → ss.toInt = c ∧ sk = 1 ∧ (sr = 0 → x 12 c = 1) ∧ (sr ≠ 0 → x 12 c = 2))
def own_CO (fl ss sk : Int32) (x : Nat → Nat → Int32) (n c : Nat) : Prop := c < n ∧ (∀ i, i < c → own_dn x i) ∧ x 11 c = 4 ∧ (∀ i, c < i → i < n → own_ab x i) ∧ (fl ≠ 0 → sk = 2 → ss.toInt = c → x 12 c ≠ 0 ∧ x 12 c ≠ 1)
def own_ph (st fl ss sk sr : Int32) (x : Nat → Nat → Int32) (n : Nat) : Prop := (st = 0 ∧ fl = 0 ∧ n = 0) ∨ (st = 1 ∧ fl = 0 ∧ ∀ i, i < n → x 11 i = 0 ∧ x 12 i = 0) ∨ (st = 2 ∧ ∃ c, own_RU fl ss sk sr x n c) ∨ (st = 3 ∧ ∃ c, own_CO fl ss sk x n c) ∨ (st = 4 ∧ ∀ i, i < n → own_dn x i) ∨ (st = 5 ∧ ∀ i, i < n → own_ab x i)
def own_P (pf af : Nat → Int32) (st cnt fl ss sk sr : Int32) (x : Nat → Nat → Int32) : Prop := ∃ n : Nat, cnt.toInt = n ∧ n ≤ 6 ∧ (∀ i, i < n → x 9 i = pf i ∧ x 10 i = af i) ∧ (∀ i, n ≤ i → x 12 i = 0) ∧ own_ph st fl ss sk sr x n
/-- saga g -/
def own_Sg (pf af : Nat → Nat → Int32) (s : St) (g : Nat) : Prop := own_P (pf g) (af g) (gI s 2 g) (gI s 3 g) (gI s 5 g) (gI s 6 g) (gI s 7 g) (gI s 8 g) (own_x s g)
def own_V (pf af : Nat → Nat → Int32) (ini : Int) (s : St) : Prop := (0 ≤ ini ∧ ini ≤ 500) ∧ own_To ini s ∧ (0 ≤ (gI s 0 38).toInt ∧ (gI s 0 38).toInt ≤ 8) ∧ (∀ g, g < 8 → own_Sg pf af s g) ∧ (∀ g : Nat, g < 8 → (gI s 0 38).toInt ≤ g → gI s 2 g = 0)
/-- what has come to an end stays -/
def own_fr (s t : St) : Prop := ∀ g, g < 8 → gI s 2 g = 4 ∨ gI s 2 g = 5 → gI t 2 g = gI s 2 g ∧ gI t 3 g = gI s 3 g ∧ ∀ i, i < 6 → gI t 12 (6 * g + i) = gI s 12 (6 * g + i)
/-- only saga g is touched -/
def own_ch (s t : St) (g : Nat) : Prop := (∀ j, j ≠ 37 → gI t 0 j = gI s 0 j) ∧ (∀ c j, 2 ≤ c → c ≤ 8 → c ≠ 4 → j ≠ g → gI t c j = gI s c j) ∧ (∀ c k, 9 ≤ c → c ≤ 12 → (k < 6 * g ∨ 6 * g + 6 ≤ k) → gI t c k = gI s c k)
theorem own_fr_rf (s : St) : own_fr s s := fun _ _ _ => ⟨rfl, rfl, fun _ _ => rfl⟩
theorem own_V_ch {pf af : Nat → Nat → Int32} {ini : Int} {s t : St} {g : Nat} (V : own_V pf af ini s) (ch : own_ch s t g) (T : own_To ini t) (S : own_Sg pf af t g) (hz : (gI s 0 38).toInt ≤ g → gI t 2 g = 0) : own_V pf af ini t := by
  obtain ⟨c0, c1, c2⟩ := ch
  refine ⟨V.1, T, by rw [c0 _ (by decide)]; exact V.2.2.1, fun h hh => ?_, fun h hh hb => ?_⟩
  · by_cases e : h = g
    · subst e; exact S
    · have := V.2.2.2.1 h hh
      unfold own_Sg at this ⊢
      have ex : own_x t h = own_x s h := funext fun c => funext fun i => by
        unfold own_x
        by_cases z : 9 ≤ c ∧ c ≤ 12 ∧ i < 6
        · simp only [if_pos z]; exact c2 c _ z.1 z.2.1 (by omega)
        · simp only [if_neg z]
      rw [ex]
      rw [c1 2 h (by decide) (by decide) (by decide) e, c1 3 h (by decide) (by decide) (by decide) e, c1 5 h (by decide) (by decide) (by decide) e, c1 6 h (by decide) (by decide) (by decide) e, c1 7 h (by decide) (by decide) (by decide) e, c1 8 h (by decide) (by decide) (by decide) e]
      exact this
  · rw [c0 _ (by decide)] at hb
    by_cases e : h = g
    · subst e; exact hz hb
    · rw [c1 2 h (by decide) (by decide) (by decide) e]; exact V.2.2.2.2 h hh hb
theorem own_fr_ch {s t : St} {g : Nat} (ch : own_ch s t g) (h : (gI s 2 g = 4 ∨ gI s 2 g = 5) → gI t 2 g = gI s 2 g ∧ gI t 3 g = gI s 3 g ∧ ∀ i, i < 6 → gI t 12 (6 * g + i) = gI s 12 (6 * g + i)) : own_fr s t := fun q hq hs => by
  by_cases e : q = g
  · subst e; exact h hs
  · exact ⟨ch.2.1 2 q (by decide) (by decide) (by decide) e, ch.2.1 3 q (by decide) (by decide) (by decide) e, fun i hi => ch.2.2 12 _ (by decide) (by decide) (by omega)⟩
/-- a step's field changes -/
def own_u (x : Nat → Nat → Int32) (c i : Nat) (v : Int32) : Nat → Nat → Int32 := fun c' i' => if c' = c ∧ i' = i then v else x c' i'
theorem own_u_eq (x : Nat → Nat → Int32) (c i : Nat) (v : Int32) : own_u x c i v c i = v := if_pos ⟨rfl, rfl⟩
theorem own_u_c (x : Nat → Nat → Int32) {c i c' i' : Nat} (v : Int32) (h : c' ≠ c) : own_u x c i v c' i' = x c' i' := if_neg (fun w => h w.1)
theorem own_u_i (x : Nat → Nat → Int32) {c i c' i' : Nat} (v : Int32) (h : i' ≠ i) : own_u x c i v c' i' = x c' i' := if_neg (fun w => h w.2)
theorem own_x_u {s t : St} {g c i : Nat} {v : Int32} (hi : i < 6) (hc : 9 ≤ c ∧ c ≤ 12) (h : ∀ c' i', 9 ≤ c' → c' ≤ 12 → i' < 6 → ¬ (c' = c ∧ i' = i) → gI t c' (6 * g + i') = gI s c' (6 * g + i')) (hv : gI t c (6 * g + i) = v) : own_x t g = own_u (own_x s g) c i v := funext fun c' => funext fun i' => by
  unfold own_u
  by_cases y : c' = c ∧ i' = i
  · rw [if_pos y, y.1, y.2, own_x_at t hc.1 hc.2 hi]; exact hv
  · rw [if_neg y]
    unfold own_x
    by_cases z : 9 ≤ c' ∧ c' ≤ 12 ∧ i' < 6
    · simp only [if_pos z]; exact h c' i' z.1 z.2.1 z.2.2 y
    · simp only [if_neg z]
theorem own_x_e {s t : St} {g : Nat} (h : ∀ c' i', 9 ≤ c' → c' ≤ 12 → i' < 6 → gI t c' (6 * g + i') = gI s c' (6 * g + i')) : own_x t g = own_x s g := funext fun c' => funext fun i' => by
  unfold own_x
  by_cases z : 9 ≤ c' ∧ c' ≤ 12 ∧ i' < 6
  · simp only [if_pos z]; exact h c' i' z.1 z.2.1 z.2.2
  · simp only [if_neg z]
/-- outstandingStep -/
theorem own_25 {pf af : Nat → Nat → Int32} {ini : Int} {s : St} (V : own_V pf af ini s) (g : Int32) (hg : 0 ≤ g.toInt ∧ g.toInt < 8) (Q : Int32 → St → Prop) (hN : Q (-1) s) (hF : ∀ c : Int32, 0 ≤ c.toInt → c.toInt < (gI s 3 (ix g)).toInt → c.toInt < 6 → (gI s 2 (ix g) = 2 ∧ own_x s (ix g) 11 (ix c) = 1 ∨ gI s 2 (ix g) = 3 ∧ own_x s (ix g) 11 (ix c) = 4) → Q c s) : calI PP 25 12 [.ref 0, .int g] s Q := by
  have xg := ix_int hg.1
  have gb : inb 8 g := hg
  obtain ⟨n, en, n6, _⟩ := V.2.2.2.1 (ix g) (by omega)
  have lp : ∀ w : Int32, (∀ c : Int32, 0 ≤ c.toInt → c.toInt < (gI s 3 (ix g)).toInt → c.toInt < 6 → own_x s (ix g) 11 (ix c) = w → Q c s) → wpcI PP 25 cm25 12 41 [some (.ref 0), some (.int g), some (.int w), none, none] [] s Q := fun w hw => by
    refine c25_41 _ _ _ _ ⟨gb, ?_⟩
    refine loop_up (F := fun i => wpcI PP 25 cm25 12 51 [some (.ref 0), some (.int g), some (.int w), some (.int (gI s 3 (ix g))), some (.int i)] [] s Q) (gI s 3 (ix g)).toInt (by omega) (fun i i0 i1 e ih => ?_) (fun i hi => ?_) 0 (by decide) (by simp; omega)
    · have xi := ix_int i0
      have e1 : (g * 6).toInt = g.toInt * 6 := by rw [i32_mul] <;> simp <;> omega
      have e2 : (g * 6 + i).toInt = g.toInt * 6 + i.toInt := by rw [i32_add] <;> rw [e1] <;> omega
      have xk := ix_int (i := g * 6 + i) (by omega)
      have ek : ix (g * 6 + i) = 6 * ix g + ix i := by omega
      refine c25_51 _ _ _ _ _ _ ⟨fun _ => ⟨fun _ => c21_in _ _ _ _ ⟨⟨by omega, by show _ < (48 : Int); omega⟩, fun a => hw i i0 i1 (by omega) ?_, fun _ => ih⟩, fun _ => hN⟩, fun q => absurd (by rw [i32_lt]; exact i1) q⟩
      rw [ek] at a
      rw [own_x_at s (by decide) (by decide) (by omega)]; exact a
    · exact c25_51 _ _ _ _ _ _ ⟨fun q => absurd q (by rw [i32_lt]; omega), fun _ => hN⟩
  apply c25_in
  refine ⟨fun _ => hN, fun _ => ⟨gb, fun a => lp 1 fun c c0 c1 c2 c3 => hF c c0 c1 c2 (Or.inl ⟨a, c3⟩), fun a => ⟨gb, fun b => lp 4 fun c c0 c1 c2 c3 => hF c c0 c1 c2 (Or.inr ⟨b, c3⟩), fun _ => hN⟩⟩⟩
/-- the step found is the one at which the saga stands -/
theorem own_cur {pf af : Nat → Int32} {st cnt fl ss sk sr : Int32} {x : Nat → Nat → Int32} (P : own_P pf af st cnt fl ss sk sr x) {i : Nat} (hi : (i : Int) < cnt.toInt) : (st = 2 → x 11 i = 1 → ∃ n : Nat, cnt.toInt = n ∧ n ≤ 6 ∧ (∀ i, i < n → x 9 i = pf i ∧ x 10 i = af i) ∧ (∀ i, n ≤ i → x 12 i = 0) ∧ own_RU fl ss sk sr x n i) ∧ (st = 3 → x 11 i = 4 → ∃ n : Nat, cnt.toInt = n ∧ n ≤ 6 ∧ (∀ i, i < n → x 9 i = pf i ∧ x 10 i = af i) ∧ (∀ i, n ≤ i → x 12 i = 0) ∧ own_CO fl ss sk x n i) := by
  obtain ⟨n, en, n6, p1, p2, ph⟩ := P
  refine ⟨fun e2 h => ⟨n, en, n6, p1, p2, ?_⟩, fun e3 h => ⟨n, en, n6, p1, p2, ?_⟩⟩
  · rcases ph with ⟨e, _⟩ | ⟨e, _⟩ | ⟨e, c, R⟩ | ⟨e, _⟩ | ⟨e, _⟩ | ⟨e, _⟩
    · exact absurd (e2.symm.trans e) (by decide)
    · exact absurd (e2.symm.trans e) (by decide)
    · have : i = c := by
        rcases Nat.lt_trichotomy i c with y | y | y
        · exact absurd ((R.2.1 i y).1.symm.trans h) (by decide)
        · exact y
        · exact absurd ((R.2.2.2.2.1 i y (by omega)).1.symm.trans h) (by decide)
      subst this; exact R
    · exact absurd (e2.symm.trans e) (by decide)
    · exact absurd (e2.symm.trans e) (by decide)
    · exact absurd (e2.symm.trans e) (by decide)
  · rcases ph with ⟨e, _⟩ | ⟨e, _⟩ | ⟨e, _⟩ | ⟨e, c, R⟩ | ⟨e, _⟩ | ⟨e, _⟩
    · exact absurd (e3.symm.trans e) (by decide)
    · exact absurd (e3.symm.trans e) (by decide)
    · exact absurd (e3.symm.trans e) (by decide)
    · have : i = c := by
        rcases Nat.lt_trichotomy i c with y | y | y
        · exact absurd ((R.2.1 i y).1.symm.trans h) (by decide)
        · exact y
        · rcases R.2.2.2.1 i y (by omega) with ⟨w | w, _⟩ | ⟨w, _⟩
          · exact absurd (w.symm.trans h) (by decide)
          · exact absurd (w.symm.trans h) (by decide)
          · exact absurd (w.symm.trans h) (by decide)
      subst this; exact R
    · exact absurd (e3.symm.trans e) (by decide)
    · exact absurd (e3.symm.trans e) (by decide)
theorem own_26 (s : St) (g : Int32) (hg : 0 ≤ g.toInt ∧ g.toInt < 8) (Q : Int32 → St → Prop) (h : Q (if gI s 2 (ix g) = 2 then 1 else 2) s) : calI PP 26 12 [.ref 0, .int g] s Q := by
  apply c26_in
  refine ⟨hg, fun a => ?_, fun a => ?_⟩
  · rw [if_pos a] at h; exact h
  · rw [if_neg a] at h; exact h
/-- dn and ab look at one step only -/
theorem own_dn_u {x : Nat → Nat → Int32} {c i j : Nat} {v : Int32} (h : j ≠ i) : own_dn (own_u x c i v) j ↔ own_dn x j := by unfold own_dn; rw [own_u_i _ _ h, own_u_i _ _ h]
theorem own_ab_u {x : Nat → Nat → Int32} {c i j : Nat} {v : Int32} (h : j ≠ i) : own_ab (own_u x c i v) j ↔ own_ab x j := by unfold own_ab; rw [own_u_i _ _ h, own_u_i _ _ h]
/-- deliver -/
theorem own_d5 {pf af : Nat → Nat → Int32} {ini : Int} {s : St} (V : own_V pf af ini s) (g : Int32) (hg : 0 ≤ g.toInt ∧ g.toInt < 8) (Q : Int32 → St → Prop) (h : ∀ v t, own_V pf af ini t → own_fr s t → Q v t) : calI PP 5 12 [.ref 0, .int g] s Q := by
  have nil : ∀ v, Q v s := fun v => h v s V (own_fr_rf s)
  have xg := ix_int hg.1
  have gb : inb 8 g := hg
  apply c5_in
  refine ⟨fun _ => nil _, fun _ => own_19 _ _ hg _ ⟨fun q => absurd q (by decide), fun _ => own_25 V g hg _ ⟨fun _ => nil _, fun q => absurd (by decide) q⟩ fun c c0 cn c6 hs => ⟨fun q => absurd q (by rw [i32_lt]; simp; omega), fun _ => own_26 s g hg _ ?_⟩⟩⟩
  have xc := ix_int c0
  generalize hk : (if gI s 2 (ix g) = 2 then (1 : Int32) else 2) = kd
  refine own_29 ini s g c kd hg ⟨c0, c6⟩ V.2.1 V.1.2 _ fun t tc Tt hA hB => ?_
  have c28 : ∀ R : Int32 → St → Prop, (∀ r : Int32, (r = 0 → kd = 2 ∨ gI t 12 (6 * ix g + ix c) = 1 ∨ gI t 12 (6 * ix g + ix c) = 3) → (r ≠ 0 → kd ≠ 2 ∧ gI t 12 (6 * ix g + ix c) ≠ 1) → R r t) → calI PP 28 12 [.ref 0, .int kd, .int (gI t 12 (6 * ix g + ix c))] t R := fun R hR => by
    apply c28_in
    exact ⟨fun a => hR 0 (fun _ => Or.inl a) (fun q => absurd rfl q), fun a => ⟨fun b => hR 0 (fun _ => Or.inr (Or.inl b)) (fun q => absurd rfl q), fun b => ⟨fun d => hR 0 (fun _ => Or.inr (Or.inr d)) (fun q => absurd rfl q), fun d => hR 1 (fun q => absurd q (by decide)) (fun _ => ⟨a, b⟩)⟩⟩⟩
  refine c28 _ fun r r0 r1 => ?_
  refine c24_in _ _ _ _ _ _ ⟨gb, gb, gb, gb, ?_⟩
  generalize hu : sI (sI (sI (sI t 5 (ix g) 1) 6 (ix g) c) 7 (ix g) kd) 8 (ix g) r = u
  have uc : ∀ q j, ¬ (5 ≤ q ∧ q ≤ 8) → gI u q j = gI t q j := fun q j a => by
    subst hu; rw [gI_sI, if_neg (by omega), gI_sI, if_neg (by omega), gI_sI, if_neg (by omega), gI_sI, if_neg (by omega)]
  have uo : ∀ q j, j ≠ ix g → gI u q j = gI t q j := fun q j a => by
    subst hu; rw [gI_sI, if_neg (fun w => a w.2), gI_sI, if_neg (fun w => a w.2), gI_sI, if_neg (fun w => a w.2), gI_sI, if_neg (fun w => a w.2)]
  have u5 : gI u 5 (ix g) = 1 := by subst hu; simp [gI_sI]
  have u6 : gI u 6 (ix g) = c := by subst hu; simp [gI_sI]
  have u7 : gI u 7 (ix g) = kd := by subst hu; simp [gI_sI]
  have u8 : gI u 8 (ix g) = r := by subst hu; simp [gI_sI]
  clear hu
  have Tu : own_To ini u := own_To_cg Tt (fun j => uc 1 j (by omega)) (fun j => uc 9 j (by omega)) (fun j => uc 10 j (by omega)) (fun j => uc 12 j (by omega))
  have ch : own_ch s u (ix g) := ⟨fun j _ => by rw [uc 0 j (by omega), tc 0 j (by decide) (by omega)], fun q j a b d hj => by rw [uo q j hj, tc q j (by omega) (by omega)], fun q k a b hk => by rw [uc q k (by omega), tc q k (by omega) (by omega)]⟩
  have u2 : gI u 2 (ix g) = gI s 2 (ix g) := by rw [uc 2 _ (by omega), tc 2 _ (by decide) (by omega)]
  have u3 : gI u 3 (ix g) = gI s 3 (ix g) := by rw [uc 3 _ (by omega), tc 3 _ (by decide) (by omega)]
  have ux : own_x u (ix g) = own_u (own_x s (ix g)) 12 (ix c) (gI t 12 (6 * ix g + ix c)) := own_x_u (by omega) (by decide) (fun c' i' h1 h2 h3 h4 => by rw [uc _ _ (by omega), tc _ _ (by omega) (by omega)]) (uc 12 _ (by omega))
  have P := V.2.2.2.1 (ix g) (by omega)
  have sx : own_x s (ix g) 12 (ix c) = gI s 12 (6 * ix g + ix c) := own_x_at s (by decide) (by decide) (by omega)
  rw [← sx] at hA hB
  have cur := own_cur P (i := ix c) (by omega)
  generalize gI t 12 (6 * ix g + ix c) = e' at ux hA hB r0 r1 ⊢
  have st23 : gI s 2 (ix g) = 2 ∨ gI s 2 (ix g) = 3 := hs.imp (fun w => w.1) (fun w => w.1)
  refine h _ u (own_V_ch V ch Tu ?_ fun q => absurd (V.2.2.2.2 (ix g) (by omega) q) (by rcases st23 with w | w <;> rw [w] <;> decide)) (own_fr_ch ch fun q => by rcases st23 with w | w <;> rw [w] at q <;> rcases q with q | q <;> exact absurd q (by decide))
  unfold own_Sg
  rw [u2, u3, u5, u6, u7, u8, ux]
  rcases hs with ⟨e2, e1⟩ | ⟨e2, e1⟩
  · rw [if_pos e2] at hk
    subst hk
    obtain ⟨n, en, n6, p1, p2, cn', R1, R2, R3, R4, R5⟩ := cur.1 e2 e1
    obtain ⟨h1, h2⟩ := hA rfl
    have e12 : e' = 1 ∨ e' = 2 := by
      by_cases z : own_x s (ix g) 12 (ix c) = 0
      · exact h2 z
      · rw [h1 z]; exact R3.resolve_left z
    refine ⟨n, en, n6, fun i hi => ?_, fun i hi => ?_, Or.inr (Or.inr (Or.inl ⟨e2, ix c, cn', fun i hi => (own_dn_u (by omega)).mpr (R1 i hi), by rw [own_u_c _ _ (by decide)]; exact R2, by rw [own_u_eq]; exact Or.inr e12, fun i hi hi2 => by rw [own_u_i _ _ (by omega), own_u_i _ _ (by omega)]; exact R4 i hi hi2, fun _ => ⟨xc.symm, rfl, fun q => ?_, fun q => ?_⟩⟩))⟩
    · rw [own_u_c _ _ (by decide), own_u_c _ _ (by decide)]; exact p1 i hi
    · rw [own_u_i _ _ (by omega)]; exact p2 i hi
    · rw [own_u_eq]
      rcases r0 q with w | w | w
      · exact absurd w (by decide)
      · exact w
      · rcases e12 with y | y <;> rw [y] at w <;> exact absurd w (by decide)
    · rw [own_u_eq]; exact e12.resolve_left (r1 q).2
  · rw [if_neg (by rw [e2]; decide)] at hk
    subst hk
    obtain ⟨n, en, n6, p1, p2, cn', R1, R2, R3, R4⟩ := cur.2 e2 e1
    obtain ⟨h1, h2, h3⟩ := hB (by decide)
    have e01 : e' ≠ 0 ∧ e' ≠ 1 := by
      by_cases z : own_x s (ix g) 12 (ix c) = 0
      · rw [h2 z]; decide
      · by_cases y : own_x s (ix g) 12 (ix c) = 1
        · rw [h1 y]; decide
        · rw [h3 z y]; exact ⟨z, y⟩
    refine ⟨n, en, n6, fun i hi => ?_, fun i hi => ?_, Or.inr (Or.inr (Or.inr (Or.inl ⟨e2, ix c, cn', fun i hi => (own_dn_u (by omega)).mpr (R1 i hi), by rw [own_u_c _ _ (by decide)]; exact R2, fun i hi hi2 => (own_ab_u (by omega)).mpr (R3 i hi hi2), fun _ _ _ => by rw [own_u_eq]; exact e01⟩)))⟩
    · rw [own_u_c _ _ (by decide), own_u_c _ _ (by decide)]; exact p1 i hi
    · rw [own_u_i _ _ (by omega)]; exact p2 i hi

theorem own_u_same (x : Nat → Nat → Int32) (c i : Nat) : own_u x c i (x c i) = x := funext fun c' => funext fun i' => by
  unfold own_u
  by_cases y : c' = c ∧ i' = i
  · rw [if_pos y, y.1, y.2]
  · rw [if_neg y]
theorem own_key {g i : Int32} (hg : 0 ≤ g.toInt ∧ g.toInt < 8) (hi : 0 ≤ i.toInt ∧ i.toInt < 6) : inb 48 (g * 6 + i) ∧ ix (g * 6 + i) = 6 * ix g + ix i := by
  have xg := ix_int hg.1
  have xi := ix_int hi.1
  have e1 : (g * 6).toInt = g.toInt * 6 := by rw [i32_mul] <;> simp <;> omega
  have e2 : (g * 6 + i).toInt = g.toInt * 6 + i.toInt := by rw [i32_add] <;> rw [e1] <;> omega
  have xk := ix_int (i := g * 6 + i) (by omega)
  exact ⟨⟨by omega, by show _ < (48 : Int); omega⟩, by omega⟩
/-- isValidStep -/
theorem own_20 (s : St) (g i : Int32) (hg : 0 ≤ g.toInt ∧ g.toInt < 8) (Q : Int32 → St → Prop) (h0 : ¬ (0 ≤ i.toInt ∧ i.toInt < (gI s 3 (ix g)).toInt ∧ i.toInt < 6) → Q 0 s) (h1 : 0 ≤ i.toInt → i.toInt < (gI s 3 (ix g)).toInt → i.toInt < 6 → Q 1 s) : calI PP 20 12 [.ref 0, .int g, .int i] s Q := by
  apply c20_in
  refine ⟨fun a => h0 fun q => ?_, fun a => ⟨hg, fun b => ⟨fun d => ?_, fun d => h0 fun q => d ?_⟩, fun b => h0 fun q => b ?_⟩⟩
  · rw [i32_lt] at a; simp at a; omega
  · rw [i32_lt] at a b d; simp at a; exact h1 a b d
  · rw [i32_lt]; exact q.2.2
  · rw [i32_lt]; exact q.2.1
/-- redeliver -/
theorem own_d6 {pf af : Nat → Nat → Int32} {ini : Int} {s : St} (V : own_V pf af ini s) (g i kd : Int32) (hg : 0 ≤ g.toInt ∧ g.toInt < 8) (Q : Int32 → St → Prop) (h : ∀ v t, own_V pf af ini t → own_fr s t → Q v t) : calI PP 6 12 [.ref 0, .int g, .int i, .int kd] s Q := by
  have nil : ∀ v, Q v s := fun v => h v s V (own_fr_rf s)
  have xg := ix_int hg.1
  apply c6_in
  refine own_19 _ _ hg _ ⟨fun q => absurd q (by decide), fun _ => own_20 s g i hg _ (fun _ => ⟨fun _ => nil _, fun q => absurd rfl q⟩) fun i0 ic i6 => ⟨fun q => absurd q (by decide), fun _ => ?_⟩⟩
  have xi := ix_int i0
  obtain ⟨kb, ek⟩ := own_key hg ⟨i0, i6⟩
  have go : wpcI PP 6 cm6 12 33 [some (.ref 0), some (.int g), some (.int i), some (.int kd)] [] s Q := by
    apply c6_33
    have sx11 : own_x s (ix g) 11 (ix i) = gI s 11 (6 * ix g + ix i) := own_x_at s (by decide) (by decide) (by omega)
    have sx : own_x s (ix g) 12 (ix i) = gI s 12 (6 * ix g + ix i) := own_x_at s (by decide) (by decide) (by omega)
    have fin : (kd = 1 → own_x s (ix g) 11 (ix i) ≠ 0) → (¬ kd = 1 → own_x s (ix g) 11 (ix i) = 4 ∨ own_x s (ix g) 11 (ix i) = 5) → calI PP 29 12 [.ref 0, .int g, .int i, .int kd] s (fun v t => Q v t) := fun k1 k2 => by
      refine own_29 ini s g i kd hg ⟨i0, i6⟩ V.2.1 V.1.2 _ fun t tc Tt hA hB => ?_
      have ch : own_ch s t (ix g) := ⟨fun j _ => tc 0 j (by decide) (by omega), fun q j a b d hj => tc q j (by omega) (by omega), fun q k a b hk => tc q k (by omega) (by omega)⟩
      have t2 := tc 2 (ix g) (by decide) (by omega)
      have tx : own_x t (ix g) = own_u (own_x s (ix g)) 12 (ix i) (gI t 12 (6 * ix g + ix i)) := own_x_u (by omega) (by decide) (fun c' i' h1 h2 h3 h4 => tc _ _ (by omega) (by omega)) rfl
      have P := V.2.2.2.1 (ix g) (by omega)
      have t12 : ∀ j, j < 6 → j ≠ ix i → gI t 12 (6 * ix g + j) = gI s 12 (6 * ix g + j) := fun j _ hj => tc 12 _ (by decide) (by omega)
      rw [← sx] at hA hB
      have sg : own_P (pf (ix g)) (af (ix g)) (gI s 2 (ix g)) (gI s 3 (ix g)) (gI s 5 (ix g)) (gI s 6 (ix g)) (gI s 7 (ix g)) (gI s 8 (ix g)) (own_u (own_x s (ix g)) 12 (ix i) (gI t 12 (6 * ix g + ix i))) ∧ ((gI s 2 (ix g) = 4 ∨ gI s 2 (ix g) = 5) → gI t 12 (6 * ix g + ix i) = own_x s (ix g) 12 (ix i)) := by
        generalize gI t 12 (6 * ix g + ix i) = e' at hA hB ⊢
        have same : e' = own_x s (ix g) 12 (ix i) → own_P (pf (ix g)) (af (ix g)) (gI s 2 (ix g)) (gI s 3 (ix g)) (gI s 5 (ix g)) (gI s 6 (ix g)) (gI s 7 (ix g)) (gI s 8 (ix g)) (own_u (own_x s (ix g)) 12 (ix i) e') ∧ ((gI s 2 (ix g) = 4 ∨ gI s 2 (ix g) = 5) → e' = own_x s (ix g) 12 (ix i)) := fun e => ⟨by rw [e, own_u_same]; exact P, fun _ => e⟩
        have ab2 : own_ab (own_x s (ix g)) (ix i) → e' = own_x s (ix g) 12 (ix i) := fun ab => by
          rcases ab with ⟨w, w0, w1⟩ | ⟨w, w0⟩
          · by_cases k : kd = 1
            · exact (hA k).1 w0
            · exact (hB k).2.2 w0 w1
          · by_cases k : kd = 1
            · exact absurd w (k1 k)
            · rcases k2 k with y | y <;> rw [y] at w <;> exact absurd w (by decide)
        have dn2 : own_dn (own_x s (ix g)) (ix i) → e' = own_x s (ix g) 12 (ix i) := fun dn => by
          by_cases k : kd = 1
          · exact (hA k).1 (by rw [dn.2]; decide)
          · rcases k2 k with y | y <;> exact absurd (dn.1.symm.trans y) (by decide)
        obtain ⟨n, en, n6, p1, p2, ph⟩ := id P
        have inn : ix i < n := by omega
        rcases ph with ⟨e, _, z⟩ | ⟨e, _, z⟩ | ⟨e, c, cn, R1, R2, R3, R4, R5⟩ | ⟨e, c, cn, R1, R2, R3, R4⟩ | ⟨e, z⟩ | ⟨e, z⟩
        · omega
        · by_cases k : kd = 1
          · exact absurd (z _ inn).1 (k1 k)
          · rcases k2 k with y | y <;> exact absurd ((z _ inn).1.symm.trans y) (by decide)
        · rcases Nat.lt_trichotomy (ix i) c with y | y | y
          · exact same (dn2 (R1 _ y))
          · subst y
            have k : kd = 1 := Classical.byContradiction fun k => by rcases k2 k with y | y <;> exact absurd (R2.symm.trans y) (by decide)
            obtain ⟨h1, h2⟩ := hA k
            refine ⟨⟨n, en, n6, fun j hj => ?_, fun j hj => ?_, Or.inr (Or.inr (Or.inl ⟨e, ix i, cn, fun j hj => (own_dn_u (by omega)).mpr (R1 j hj), by rw [own_u_c _ _ (by decide)]; exact R2, ?_, fun j hj hj2 => by rw [own_u_i _ _ (by omega), own_u_i _ _ (by omega)]; exact R4 j hj hj2, fun f => ?_⟩))⟩, fun w => by rw [e] at w; rcases w with w | w <;> exact absurd w (by decide)⟩
            · rw [own_u_c _ _ (by decide), own_u_c _ _ (by decide)]; exact p1 j hj
            · rw [own_u_i _ _ (by omega)]; exact p2 j hj
            · rw [own_u_eq]
              by_cases z : own_x s (ix g) 12 (ix i) = 0
              · exact Or.inr (h2 z)
              · rw [h1 z]; exact R3
            · rw [own_u_eq]
              obtain ⟨f1, f2, f3, f4⟩ := R5 f
              have nz : own_x s (ix g) 12 (ix i) ≠ 0 := by
                by_cases w : gI s 8 (ix g) = 0
                · rw [f3 w]; decide
                · rw [f4 w]; decide
              rw [h1 nz]; exact ⟨f1, f2, f3, f4⟩
          · by_cases k : kd = 1
            · exact absurd (R4 _ y inn).1 (k1 k)
            · rcases k2 k with w | w <;> exact absurd ((R4 _ y inn).1.symm.trans w) (by decide)
        · rcases Nat.lt_trichotomy (ix i) c with y | y | y
          · exact same (dn2 (R1 _ y))
          · subst y
            refine ⟨⟨n, en, n6, fun j hj => ?_, fun j hj => ?_, Or.inr (Or.inr (Or.inr (Or.inl ⟨e, ix i, cn, fun j hj => (own_dn_u (by omega)).mpr (R1 j hj), by rw [own_u_c _ _ (by decide)]; exact R2, fun j hj hj2 => (own_ab_u (by omega)).mpr (R3 j hj hj2), fun f1 f2 f3 => ?_⟩)))⟩, fun w => by rw [e] at w; rcases w with w | w <;> exact absurd w (by decide)⟩
            · rw [own_u_c _ _ (by decide), own_u_c _ _ (by decide)]; exact p1 j hj
            · rw [own_u_i _ _ (by omega)]; exact p2 j hj
            · rw [own_u_eq]
              obtain ⟨w0, w1⟩ := R4 f1 f2 f3
              by_cases k : kd = 1
              · rw [(hA k).1 w0]; exact ⟨w0, w1⟩
              · rw [(hB k).2.2 w0 w1]; exact ⟨w0, w1⟩
          · exact same (ab2 (R3 _ y inn))
        · exact same (dn2 (z _ inn))
        · exact same (ab2 (z _ inn))
      refine h _ t (own_V_ch V ch Tt ?_ fun q => by rw [t2]; exact V.2.2.2.2 (ix g) (by omega) q) (own_fr_ch ch fun q => ⟨t2, tc 3 _ (by decide) (by omega), fun j hj => ?_⟩)
      · unfold own_Sg
        rw [t2, tc 3 _ (by decide) (by omega), tc 5 _ (by decide) (by omega), tc 6 _ (by decide) (by omega), tc 7 _ (by decide) (by omega), tc 8 _ (by decide) (by omega), tx]
        exact sg.1
      · by_cases y : j = ix i
        · rw [y, sg.2 q, sx]
        · exact t12 j hj y
    apply c27_in
    refine c21_in _ _ _ _ ?_
    rw [ek, ← sx11]
    exact ⟨kb, fun k => ⟨fun _ => ⟨fun _ => nil _, fun q => absurd rfl q⟩, fun z => ⟨fun q => absurd q (by decide), fun _ => fin (fun _ => z) (fun q => absurd k q)⟩⟩, fun k => ⟨fun z => ⟨fun q => absurd q (by decide), fun _ => fin (fun q => absurd q k) (fun _ => Or.inl z)⟩, fun _ => ⟨fun z => ⟨fun q => absurd q (by decide), fun _ => fin (fun q => absurd q k) (fun _ => Or.inr z)⟩, fun _ => ⟨fun _ => nil _, fun q => absurd rfl q⟩⟩⟩⟩
  exact ⟨fun _ => go, fun _ => ⟨fun _ => go, fun _ => nil _⟩⟩
/-- retries may change -/
theorem own_V_4 {pf af : Nat → Nat → Int32} {ini : Int} {s t : St} (V : own_V pf af ini s) (h : ∀ c j, c ≠ 4 → gI t c j = gI s c j) : own_V pf af ini t ∧ own_fr s t := by
  have ch : own_ch s t 0 := ⟨fun j _ => h 0 j (by decide), fun c j _ _ d _ => h c j d, fun c k a _ _ => h c k (by omega)⟩
  refine ⟨own_V_ch V ch (own_To_cg V.2.1 (fun j => h 1 j (by decide)) (fun j => h 9 j (by decide)) (fun j => h 10 j (by decide)) (fun j => h 12 j (by decide))) ?_ (fun q => by rw [h 2 _ (by decide)]; exact V.2.2.2.2 0 (by decide) q), own_fr_ch ch fun _ => ⟨h 2 _ (by decide), h 3 _ (by decide), fun i _ => h 12 _ (by decide)⟩⟩
  have := V.2.2.2.1 0 (by decide)
  unfold own_Sg at this ⊢
  rw [h 2 _ (by decide), h 3 _ (by decide), h 5 _ (by decide), h 6 _ (by decide), h 7 _ (by decide), h 8 _ (by decide), own_x_e (s := s) fun c' i' a _ _ => h c' _ (by omega)]
  exact this
/-- timeout -/
theorem own_d8 {pf af : Nat → Nat → Int32} {ini : Int} {s : St} (V : own_V pf af ini s) (g : Int32) (hg : 0 ≤ g.toInt ∧ g.toInt < 8) (Q : Int32 → St → Prop) (h : ∀ v t, own_V pf af ini t → own_fr s t → Q v t) : calI PP 8 12 [.ref 0, .int g] s Q := by
  have nil : ∀ v, Q v s := fun v => h v s V (own_fr_rf s)
  have xg := ix_int hg.1
  have gb : inb 8 g := hg
  have re : ∀ v w, Q v (sI s 4 (ix g) w) := fun v w => by
    obtain ⟨a, b⟩ := own_V_4 (t := sI s 4 (ix g) w) V fun c j hc => by rw [gI_sI, if_neg (fun q => hc q.1)]
    exact h v _ a b
  apply c8_in
  refine ⟨fun _ => nil _, fun _ => own_19 _ _ hg _ ⟨fun q => absurd q (by decide), fun _ => own_25 V g hg _ ⟨fun _ => nil _, fun q => absurd (by decide) q⟩ fun c c0 cn c6 hs => ⟨fun q => absurd q (by rw [i32_lt]; simp; omega), fun _ => own_26 s g hg _ ⟨fun _ => ⟨gb, gb, re _ _⟩, fun k2 => ⟨gb, fun _ => ⟨gb, gb, re _ _⟩, fun _ => ?_⟩⟩⟩⟩⟩
  have xc := ix_int c0
  have e2 : gI s 2 (ix g) = 2 := Classical.byContradiction fun w => by rw [if_neg w] at k2; exact k2 rfl
  have e1 : own_x s (ix g) 11 (ix c) = 1 := by
    rcases hs with w | w
    · exact w.2
    · exact absurd (e2.symm.trans w.1) (by decide)
  obtain ⟨kb, ek⟩ := own_key hg ⟨c0, c6⟩
  apply c35_in
  refine c21_in _ _ _ _ ⟨kb, gb, gb, ?_⟩
  rw [ek]
  have P := V.2.2.2.1 (ix g) (by omega)
  obtain ⟨n, en, n6, p1, p2, cn', R1, R2, R3, R4, R5⟩ := (own_cur P (i := ix c) (by omega)).1 e2 e1
  generalize hu : sI (sI (sI s 11 (6 * ix g + ix c) 4) 2 (ix g) 3) 4 (ix g) 0 = u
  have uc : ∀ q j, q ≠ 2 → q ≠ 4 → q ≠ 11 → gI u q j = gI s q j := fun q j a b d => by subst hu; rw [gI_sI, if_neg (fun w => b w.1), gI_sI, if_neg (fun w => a w.1), gI_sI, if_neg (fun w => d w.1)]
  have u2 : ∀ j, gI u 2 j = if j = ix g then 3 else gI s 2 j := fun j => by subst hu; simp [gI_sI]
  have u11 : ∀ j, gI u 11 j = if j = 6 * ix g + ix c then 4 else gI s 11 j := fun j => by subst hu; simp [gI_sI]
  clear hu
  have ux : own_x u (ix g) = own_u (own_x s (ix g)) 11 (ix c) 4 := own_x_u (by omega) (by decide) (fun c' i' h1 h2 h3 h4 => by
    by_cases w : c' = 11
    · subst w; rw [u11, if_neg (by omega)]
    · exact uc _ _ (by omega) (by omega) w) (by rw [u11, if_pos rfl])
  have ch : own_ch s u (ix g) := ⟨fun j _ => uc 0 j (by decide) (by decide) (by decide), fun q j a b d hj => by
    by_cases w : q = 2
    · subst w; rw [u2, if_neg hj]
    · exact uc q j w d (by omega), fun q k a b hk => by
    by_cases w : q = 11
    · subst w; rw [u11, if_neg (by omega)]
    · exact uc q k (by omega) (by omega) w⟩
  refine h _ u (own_V_ch V ch (own_To_cg V.2.1 (fun j => uc 1 j (by decide) (by decide) (by decide)) (fun j => uc 9 j (by decide) (by decide) (by decide)) (fun j => uc 10 j (by decide) (by decide) (by decide)) (fun j => uc 12 j (by decide) (by decide) (by decide))) ?_ fun q => absurd ((V.2.2.2.2 (ix g) (by omega) q).symm.trans e2) (by decide)) (own_fr_ch ch fun q => by rw [e2] at q; rcases q with q | q <;> exact absurd q (by decide))
  unfold own_Sg
  rw [u2, if_pos rfl, uc 3 _ (by decide) (by decide) (by decide), uc 5 _ (by decide) (by decide) (by decide), uc 6 _ (by decide) (by decide) (by decide), uc 7 _ (by decide) (by decide) (by decide), uc 8 _ (by decide) (by decide) (by decide), ux]
  refine ⟨n, en, n6, fun i hi => ?_, fun i hi => ?_, Or.inr (Or.inr (Or.inr (Or.inl ⟨rfl, ix c, cn', fun i hi => (own_dn_u (by omega)).mpr (R1 i hi), own_u_eq _ _ _ _, fun i hi hi2 => (own_ab_u (by omega)).mpr (Or.inr (R4 i hi hi2)), fun f1 f2 => absurd ((R5 f1).2.1.symm.trans f2) (by decide)⟩)))⟩
  · rw [own_u_c _ _ (by decide), own_u_c _ _ (by decide)]; exact p1 i hi
  · rw [own_u_c _ _ (by decide)]; exact p2 i hi
/-- clearing a slot -/
theorem own_P_clr {pf af : Nat → Int32} {st cnt fl ss sk sr : Int32} {x : Nat → Nat → Int32} (P : own_P pf af st cnt fl ss sk sr x) (a b c : Int32) : own_P pf af st cnt 0 a b c x := by
  obtain ⟨n, en, n6, p1, p2, ph⟩ := P
  refine ⟨n, en, n6, p1, p2, ?_⟩
  rcases ph with ⟨e, _, z⟩ | ⟨e, _, z⟩ | ⟨e, c, cn, R1, R2, R3, R4, R5⟩ | ⟨e, c, cn, R1, R2, R3, R4⟩ | ⟨e, z⟩ | ⟨e, z⟩
  · exact Or.inl ⟨e, rfl, z⟩
  · exact Or.inr (Or.inl ⟨e, rfl, z⟩)
  · exact Or.inr (Or.inr (Or.inl ⟨e, c, cn, R1, R2, R3, R4, fun q => absurd rfl q⟩))
  · exact Or.inr (Or.inr (Or.inr (Or.inl ⟨e, c, cn, R1, R2, R3, fun q => absurd rfl q⟩)))
  · exact Or.inr (Or.inr (Or.inr (Or.inr (Or.inl ⟨e, z⟩))))
  · exact Or.inr (Or.inr (Or.inr (Or.inr (Or.inr ⟨e, z⟩))))
theorem own_fr_tr {s t u : St} (a : own_fr s t) (b : own_fr t u) : own_fr s u := fun g hg hs => by
  obtain ⟨a1, a2, a3⟩ := a g hg hs
  obtain ⟨b1, b2, b3⟩ := b g hg (by rw [a1]; exact hs)
  exact ⟨by rw [b1, a1], by rw [b2, a2], fun i hi => by rw [b3 i hi, a3 i hi]⟩
/-- slots, retries and up may change -/
theorem own_V_sl {pf af : Nat → Nat → Int32} {ini : Int} {s t : St} {g : Nat} (V : own_V pf af ini s) (hg : g < 8) (h0 : ∀ j, j ≠ 37 → gI t 0 j = gI s 0 j) (h : ∀ c j, c ≠ 0 → ¬ (4 ≤ c ∧ c ≤ 8) → gI t c j = gI s c j) (ho : ∀ c j, 5 ≤ c → c ≤ 8 → j ≠ g → gI t c j = gI s c j) (h5 : gI t 5 g = 0 ∨ ∀ c, 5 ≤ c → c ≤ 8 → gI t c g = gI s c g) : own_V pf af ini t ∧ own_fr s t := by
  have ch : own_ch s t g := ⟨h0, fun c j a b d hj => by
    by_cases w : 5 ≤ c
    · exact ho c j w b hj
    · exact h c j (by omega) (by omega), fun c k a b _ => h c k (by omega) (by omega)⟩
  refine ⟨own_V_ch V ch (own_To_cg V.2.1 (fun j => h 1 j (by decide) (by omega)) (fun j => h 9 j (by decide) (by omega)) (fun j => h 10 j (by decide) (by omega)) (fun j => h 12 j (by decide) (by omega))) ?_ (fun q => by rw [h 2 _ (by decide) (by omega)]; exact V.2.2.2.2 g hg q), own_fr_ch ch fun _ => ⟨h 2 _ (by decide) (by omega), h 3 _ (by decide) (by omega), fun i _ => h 12 _ (by decide) (by omega)⟩⟩
  have P := V.2.2.2.1 g hg
  unfold own_Sg at P ⊢
  rw [h 2 _ (by decide) (by omega), h 3 _ (by decide) (by omega), own_x_e (s := s) fun c' i' a _ _ => h c' _ (by omega) (by omega)]
  rcases h5 with w | w
  · rw [w]; exact own_P_clr P _ _ _
  · rw [w 5 (by decide) (by decide), w 6 (by decide) (by decide), w 7 (by decide) (by decide), w 8 (by decide) (by decide)]; exact P
/-- crash and recover -/
theorem own_d9 {pf af : Nat → Nat → Int32} {ini : Int} {s : St} (V : own_V pf af ini s) (Q : Int32 → St → Prop) (h : ∀ v t, own_V pf af ini t → own_fr s t → Q v t) : calI PP 9 12 [.ref 0] s Q := by
  apply c9_in
  refine ⟨fun _ => h _ s V (own_fr_rf s), fun _ => ?_⟩
  obtain ⟨V0, f0⟩ := own_V_sl (t := sI s 0 37 0) (g := 0) V (by decide) (fun j hj => by rw [gI_sI, if_neg (fun w => hj w.2)]) (fun c j a _ => by rw [gI_sI, if_neg (fun w => a w.1)]) (fun c j a _ _ => by rw [gI_sI, if_neg (by omega)]) (Or.inr fun c a _ => by rw [gI_sI, if_neg (by omega)])
  refine loop_up (F := fun i => ∀ u, own_V pf af ini u → own_fr s u → wpcI PP 9 cm9 12 16 [some (.ref 0), some (.int i)] [] u Q) 8 (by decide) (fun i i0 i1 e ih u Vu fu => ?_) (fun i hi u Vu fu => ?_) 0 (by decide) (by decide) _ V0 f0
  · have xi := ix_int i0
    have ib : inb 8 i := ⟨i0, i1⟩
    refine c9_16 _ _ _ ⟨fun _ => c23_in _ _ _ ⟨ib, ib, ib, ib, ib, ?_⟩, fun q => absurd (by rw [i32_lt]; exact i1) q⟩
    obtain ⟨a, b⟩ := own_V_sl (t := sI (sI (sI (sI (sI u 5 (ix i) 0) 6 (ix i) 0) 7 (ix i) 0) 8 (ix i) 0) 4 (ix i) 0) (g := ix i) Vu (by omega) (fun j _ => by simp [gI_sI]) (fun c j a b => by rw [gI_sI, if_neg (by omega), gI_sI, if_neg (by omega), gI_sI, if_neg (by omega), gI_sI, if_neg (by omega), gI_sI, if_neg (by omega)]) (fun c j a b hj => by rw [gI_sI, if_neg (by omega), gI_sI, if_neg (by omega), gI_sI, if_neg (by omega), gI_sI, if_neg (by omega), gI_sI, if_neg (by omega)]) (Or.inl (by simp [gI_sI]))
    exact ih _ a (own_fr_tr fu b)
  · exact c9_16 _ _ _ ⟨fun q => absurd q (by rw [i32_lt, hi]; decide), fun _ => h _ u Vu fu⟩
theorem own_d10 {pf af : Nat → Nat → Int32} {ini : Int} {s : St} (V : own_V pf af ini s) (Q : Int32 → St → Prop) (h : ∀ v t, own_V pf af ini t → own_fr s t → Q v t) : calI PP 10 12 [.ref 0] s Q := by
  apply c10_in
  refine ⟨fun _ => ?_, fun _ => h _ s V (own_fr_rf s)⟩
  obtain ⟨V0, f0⟩ := own_V_sl (t := sI s 0 37 1) (g := 0) V (by decide) (fun j hj => by rw [gI_sI, if_neg (fun w => hj w.2)]) (fun c j a _ => by rw [gI_sI, if_neg (fun w => a w.1)]) (fun c j a _ _ => by rw [gI_sI, if_neg (by omega)]) (Or.inr fun c a _ => by rw [gI_sI, if_neg (by omega)])
  refine loop_up (F := fun i => ∀ u, own_V pf af ini u → own_fr s u → wpcI PP 10 cm10 12 16 [some (.ref 0), some (.int i)] [] u Q) 8 (by decide) (fun i i0 i1 e ih u Vu fu => ?_) (fun i hi u Vu fu => ?_) 0 (by decide) (by decide) _ V0 f0
  · have xi := ix_int i0
    have ib : inb 8 i := ⟨i0, i1⟩
    refine c10_16 _ _ _ ⟨fun _ => ⟨ib, c23_in _ _ _ ⟨ib, ib, ib, ib, ?_⟩⟩, fun q => absurd (by rw [i32_lt]; exact i1) q⟩
    obtain ⟨a, b⟩ := own_V_sl (t := sI (sI (sI (sI (sI u 4 (ix i) 0) 5 (ix i) 0) 6 (ix i) 0) 7 (ix i) 0) 8 (ix i) 0) (g := ix i) Vu (by omega) (fun j _ => by simp [gI_sI]) (fun c j a b => by rw [gI_sI, if_neg (by omega), gI_sI, if_neg (by omega), gI_sI, if_neg (by omega), gI_sI, if_neg (by omega), gI_sI, if_neg (by omega)]) (fun c j a b hj => by rw [gI_sI, if_neg (by omega), gI_sI, if_neg (by omega), gI_sI, if_neg (by omega), gI_sI, if_neg (by omega), gI_sI, if_neg (by omega)]) (Or.inl (by simp [gI_sI]))
    exact ih _ a (own_fr_tr fu b)
  · exact c10_16 _ _ _ ⟨fun q => absurd q (by rw [i32_lt, hi]; decide), fun _ => h _ u Vu fu⟩

theorem own_m1e : (-1 : Int32).toInt = -1 := by decide
theorem own_dec (y : Int32) (h : -2147483648 < y.toInt) : (y + -1).toInt = y.toInt - 1 := by
  have r := rng32 y
  rw [i32_add] <;> rw [own_m1e] <;> omega
/-- highestDone -/
theorem own_36 (s : St) (g : Int32) (hg : 0 ≤ g.toInt ∧ g.toInt < 8) (n c : Nat) (en : (gI s 3 (ix g)).toInt = n) (n6 : n ≤ 6) (cn : c ≤ n) (dn : ∀ i, i < c → gI s 11 (6 * ix g + i) = 2) (ab : ∀ i, c ≤ i → i < n → gI s 11 (6 * ix g + i) ≠ 2) (Q : Int32 → St → Prop) (h : ∀ v : Int32, v.toInt = (c : Int) - 1 → Q v s) : calI PP 36 12 [.ref 0, .int g] s Q := by
  have xg := ix_int hg.1
  apply c36_in
  refine ⟨hg, fun m em => ?_⟩
  have em' : m.toInt = n := by
    rw [em, if_neg (by rw [i32_lt, en]; simp; omega), en]
  have e1 : (m - 1).toInt = (n : Int) - 1 := by rw [i32_sub] <;> simp <;> omega
  generalize m - 1 = y at e1 ⊢
  clear em
  have key : ∀ (k : Nat) (y : Int32), y.toInt = (k : Int) - 1 → c ≤ k → k ≤ n → wpcI PP 36 cm36 12 20 [some (.ref 0), some (.int g), none, some (.int y)] [] s Q := by
    intro k
    induction k with
    | zero =>
      intro y ey ck kn
      exact c36_20 _ _ _ _ ⟨fun _ => h (-1) (by rw [own_m1e]; omega), fun q => absurd (by rw [i32_lt, ey]; decide) q⟩
    | succ k ih =>
      intro y ey ck kn
      have y0 : 0 ≤ y.toInt := by omega
      have xy := ix_int y0
      obtain ⟨kb, ek⟩ := own_key hg (i := y) ⟨y0, by omega⟩
      refine c36_20 _ _ _ _ ⟨fun q => absurd q (by rw [i32_lt]; simp; omega), fun _ => c21_in _ _ _ _ ⟨kb, fun a => h y ?_, fun a => ih (y + -1) ((own_dec y (by omega)).trans (by omega)) ?_ (by omega)⟩⟩
      · rw [ek] at a
        by_cases w : c ≤ k
        · exact absurd a (by have := ab k w (by omega); rw [show ix y = k by omega]; exact this)
        · omega
      · rw [ek] at a
        by_cases w : c ≤ k
        · exact w
        · exact absurd (by rw [show ix y = k by omega]; exact dn k (by omega)) a
  exact key n y e1 cn (Nat.le_refl _)
/-- compensate -/
theorem own_37 {pf af : Nat → Nat → Int32} {ini : Int} {s0 s : St} (V : own_V pf af ini s0) (g : Int32) (hg : 0 ≤ g.toInt ∧ g.toInt < 8) (ch : own_ch s0 s (ix g)) (T : own_To ini s) (n c : Nat) (en : (gI s 3 (ix g)).toInt = n) (n6 : n ≤ 6) (cn : c < n) (p1 : ∀ i, i < n → own_x s (ix g) 9 i = pf (ix g) i ∧ own_x s (ix g) 10 i = af (ix g) i) (p2 : ∀ i, n ≤ i → own_x s (ix g) 12 i = 0) (dn : ∀ i, i < c → own_dn (own_x s (ix g)) i) (ab : ∀ i, c ≤ i → i < n → own_ab (own_x s (ix g)) i) (f5 : gI s 5 (ix g) = 0) (nf : gI s0 2 (ix g) = 2 ∨ gI s0 2 (ix g) = 3) (Q : St → Prop) (h : ∀ t, own_V pf af ini t → own_fr s0 t → Q t) : calV PP 37 12 [.ref 0, .int g] s Q := by
  have xg := ix_int hg.1
  have gb : inb 8 g := hg
  have nfz : ¬ (gI s0 0 38).toInt ≤ ix g := fun q => by
    have := V.2.2.2.2 (ix g) (by omega) q
    rcases nf with w | w <;> rw [w] at this <;> exact absurd this (by decide)
  have nff : ¬ (gI s0 2 (ix g) = 4 ∨ gI s0 2 (ix g) = 5) := fun q => by
    rcases nf with w | w <;> rw [w] at q <;> rcases q with q | q <;> exact absurd q (by decide)
  obtain ⟨c0, c1, c2⟩ := ch
  apply c37_in
  refine ⟨gb, own_36 (sI s 2 (ix g) 3) g hg n c (by rw [gI_sI, if_neg (by omega)]; exact en) n6 (by omega) (fun i hi => ?_) (fun i hi hi2 => ?_) _ fun v ev => ⟨fun lt => ⟨gb, ?_⟩, fun lt => ?_⟩⟩
  · rw [gI_sI, if_neg (by omega), ← own_x_at s (by decide) (by decide) (by omega)]; exact (dn i hi).1
  · rw [gI_sI, if_neg (by omega), ← own_x_at s (by decide) (by decide) (by omega)]
    rcases ab i hi hi2 with ⟨w | w, _⟩ | ⟨w, _⟩ <;> rw [w] <;> decide
  · have c0' : c = 0 := by rw [i32_lt, ev] at lt; simp at lt; omega
    generalize hu : sI (sI s 2 (ix g) 3) 2 (ix g) 5 = u
    have uc : ∀ q j, q ≠ 2 → gI u q j = gI s q j := fun q j a => by subst hu; rw [gI_sI, if_neg (fun w => a w.1), gI_sI, if_neg (fun w => a w.1)]
    have u2 : ∀ j, gI u 2 j = if j = ix g then 5 else gI s 2 j := fun j => by
      subst hu; rw [gI_sI, gI_sI]
      by_cases y : j = ix g
      · rw [if_pos ⟨rfl, y⟩, if_pos y]
      · rw [if_neg (fun w => y w.2), if_neg (fun w => y w.2), if_neg y]
    clear hu
    have ch : own_ch s0 u (ix g) := ⟨fun j hj => by rw [uc 0 j (by decide), c0 j hj], fun q j a b d hj => by
      by_cases w : q = 2
      · subst w; rw [u2, if_neg hj]; exact c1 2 j a b d hj
      · rw [uc q j w]; exact c1 q j a b d hj, fun q k a b hk => by rw [uc q k (by omega)]; exact c2 q k a b hk⟩
    refine h u (own_V_ch V ch (own_To_cg T (fun j => uc 1 j (by decide)) (fun j => uc 9 j (by decide)) (fun j => uc 10 j (by decide)) (fun j => uc 12 j (by decide))) ?_ fun q => absurd q nfz) (own_fr_ch ch fun q => absurd q nff)
    unfold own_Sg
    rw [u2, if_pos rfl, own_x_e (s := s) fun c' i' a _ _ => uc c' _ (by omega), uc 3 _ (by decide)]
    exact ⟨n, en, n6, p1, p2, Or.inr (Or.inr (Or.inr (Or.inr (Or.inr ⟨rfl, fun i hi => ab i (by omega) hi⟩))))⟩
  · have cp : 1 ≤ c := by rw [i32_lt, ev] at lt; simp at lt; omega
    have v0 : 0 ≤ v.toInt := by omega
    have xv := ix_int v0
    obtain ⟨kb, ek⟩ := own_key hg (i := v) ⟨v0, by omega⟩
    refine c21_in _ _ _ _ ⟨kb, gb, ?_⟩
    rw [ek, show ix v = c - 1 by omega]
    generalize hu : sI (sI (sI s 2 (ix g) 3) 11 (6 * ix g + (c - 1)) 4) 4 (ix g) 0 = u
    have uc : ∀ q j, q ≠ 2 → q ≠ 4 → q ≠ 11 → gI u q j = gI s q j := fun q j a b d => by subst hu; rw [gI_sI, if_neg (fun w => b w.1), gI_sI, if_neg (fun w => d w.1), gI_sI, if_neg (fun w => a w.1)]
    have u2 : ∀ j, gI u 2 j = if j = ix g then 3 else gI s 2 j := fun j => by subst hu; simp [gI_sI]
    have u11 : ∀ j, gI u 11 j = if j = 6 * ix g + (c - 1) then 4 else gI s 11 j := fun j => by subst hu; simp [gI_sI]
    clear hu
    have ch : own_ch s0 u (ix g) := ⟨fun j hj => by rw [uc 0 j (by decide) (by decide) (by decide), c0 j hj], fun q j a b d hj => by
      by_cases w : q = 2
      · subst w; rw [u2, if_neg hj]; exact c1 2 j a b d hj
      · rw [uc q j w d (by omega)]; exact c1 q j a b d hj, fun q k a b hk => by
      by_cases w : q = 11
      · subst w; rw [u11, if_neg (by omega)]; exact c2 11 k a b hk
      · rw [uc q k (by omega) (by omega) w]; exact c2 q k a b hk⟩
    have ux : own_x u (ix g) = own_u (own_x s (ix g)) 11 (c - 1) 4 := own_x_u (by omega) (by decide) (fun c' i' h1 h2 h3 h4 => by
      by_cases w : c' = 11
      · subst w; rw [u11, if_neg (by omega)]
      · exact uc _ _ (by omega) (by omega) w) (by rw [u11, if_pos rfl])
    refine h u (own_V_ch V ch (own_To_cg T (fun j => uc 1 j (by decide) (by decide) (by decide)) (fun j => uc 9 j (by decide) (by decide) (by decide)) (fun j => uc 10 j (by decide) (by decide) (by decide)) (fun j => uc 12 j (by decide) (by decide) (by decide))) ?_ fun q => absurd q nfz) (own_fr_ch ch fun q => absurd q nff)
    unfold own_Sg
    rw [u2, if_pos rfl, ux, uc 3 _ (by decide) (by decide) (by decide), uc 5 _ (by decide) (by decide) (by decide), f5]
    refine ⟨n, en, n6, fun i hi => ?_, fun i hi => ?_, Or.inr (Or.inr (Or.inr (Or.inl ⟨rfl, c - 1, by omega, fun i hi => (own_dn_u (by omega)).mpr (dn i (by omega)), own_u_eq _ _ _ _, fun i hi hi2 => (own_ab_u (by omega)).mpr (ab i (by omega) hi2), fun q => absurd rfl q⟩)))⟩
    · rw [own_u_c _ _ (by decide), own_u_c _ _ (by decide)]; exact p1 i hi
    · rw [own_u_c _ _ (by decide)]; exact p2 i hi
/-- receive -/
theorem own_d7 {pf af : Nat → Nat → Int32} {ini : Int} {s : St} (V : own_V pf af ini s) (g : Int32) (hg : 0 ≤ g.toInt ∧ g.toInt < 8) (Q : Int32 → St → Prop) (h : ∀ v t, own_V pf af ini t → own_fr s t → Q v t) : calI PP 7 12 [.ref 0, .int g] s Q := by
  have nil : ∀ v, Q v s := fun v => h v s V (own_fr_rf s)
  have xg := ix_int hg.1
  have gb : inb 8 g := hg
  apply c7_in
  refine ⟨fun _ => nil _, fun _ => own_19 _ _ hg _ ⟨fun q => absurd q (by decide), fun _ => ⟨gb, fun _ => nil _, fun fl => ⟨gb, ?_⟩⟩⟩⟩
  have wc : ∀ c j, ¬ (c = 5 ∧ j = ix g) → gI (sI s 5 (ix g) 0) c j = gI s c j := fun c j hn => by rw [gI_sI, if_neg hn]
  have w5 : gI (sI s 5 (ix g) 0) 5 (ix g) = 0 := by simp [gI_sI]
  generalize sI s 5 (ix g) 0 = w at wc w5 ⊢
  obtain ⟨Vw, fw⟩ := own_V_sl (t := w) (g := ix g) V (by omega) (fun j _ => wc 0 j (by omega)) (fun c j a b => wc c j (by omega)) (fun c j a b hj => wc c j (by omega)) (Or.inl w5)
  have wn : ∀ v, Q v w := fun v => h v w Vw fw
  have wx : own_x w (ix g) = own_x s (ix g) := own_x_e fun c' i' a _ _ => wc c' _ (by omega)
  have w2 : gI w 2 (ix g) = gI s 2 (ix g) := wc 2 _ (by omega)
  have w3 : gI w 3 (ix g) = gI s 3 (ix g) := wc 3 _ (by omega)
  refine own_25 Vw g hg _ ⟨fun _ => wn _, fun q => absurd (by decide) q⟩ fun c c0 cn c6 hs => ⟨fun q => absurd q (by rw [i32_lt]; simp; omega), fun _ => own_26 w g hg _ ?_⟩
  have xc := ix_int c0
  obtain ⟨kb, ek⟩ := own_key hg ⟨c0, c6⟩
  rw [w2, wx] at hs
  rw [w3] at cn
  rw [wc 6 _ (by omega), wc 7 _ (by omega), wc 8 _ (by omega), w2]
  have P := V.2.2.2.1 (ix g) (by omega)
  have cur := own_cur P (i := ix c) (by omega)
  refine ⟨gb, fun e6 => ⟨gb, fun e7 => ?_, fun _ => wn _⟩, fun _ => wn _⟩
  -- the state with a new step state
  have put : ∀ v : Int32, ∃ u, u = sI w 11 (6 * ix g + ix c) v ∧ own_ch s u (ix g) ∧ own_To ini u ∧ own_x u (ix g) = own_u (own_x s (ix g)) 11 (ix c) v ∧ gI u 3 (ix g) = gI s 3 (ix g) ∧ gI u 5 (ix g) = 0 ∧ (∀ q j, q ≠ 11 → gI u q j = gI w q j) := fun v => by
    have uc : ∀ q j, ¬ (q = 11 ∧ j = 6 * ix g + ix c) → gI (sI w 11 (6 * ix g + ix c) v) q j = gI w q j := fun q j a => by rw [gI_sI, if_neg a]
    refine ⟨_, rfl, ⟨fun j _ => by rw [uc 0 j (by omega), wc 0 j (by omega)], fun q j a b d hj => by rw [uc q j (by omega), wc q j (by omega)], fun q k a b hk => by rw [uc q k (by omega), wc q k (by omega)]⟩, own_To_cg V.2.1 (fun j => by rw [uc 1 j (by omega), wc 1 j (by omega)]) (fun j => by rw [uc 9 j (by omega), wc 9 j (by omega)]) (fun j => by rw [uc 10 j (by omega), wc 10 j (by omega)]) (fun j => by rw [uc 12 j (by omega), wc 12 j (by omega)]), own_x_u (by omega) (by decide) (fun c' i' h1 h2 h3 h4 => by rw [uc _ _ (by omega), wc _ _ (by omega)]) (by rw [gI_sI, if_pos ⟨rfl, rfl⟩]), by rw [uc 3 _ (by omega), w3], by rw [uc 5 _ (by omega), w5], fun q j hq => uc q j (by omega)⟩
  rcases hs with ⟨e2, e1⟩ | ⟨e2, e1⟩
  · rw [if_pos e2] at e7 ⊢
    obtain ⟨n, en, n6, p1, p2, cn', R1, R2, R3, R4, R5⟩ := cur.1 e2 e1
    obtain ⟨f1, f2, f3, f4⟩ := R5 fl
    refine ⟨fun _ => ⟨gb, fun sr => ?_, fun sr => ?_⟩, fun q => absurd rfl q⟩
    · obtain ⟨u, eu, ch, Tu, ux, u3, u5, uq⟩ := put 2
      have nfz : ¬ (gI s 0 38).toInt ≤ ix g := fun q => absurd ((V.2.2.2.2 (ix g) (by omega) q).symm.trans e2) (by decide)
      have nff : ¬ (gI s 2 (ix g) = 4 ∨ gI s 2 (ix g) = 5) := fun q => by rw [e2] at q; rcases q with q | q <;> exact absurd q (by decide)
      have ed : (gI w 3 (ix g) - 1).toInt = (n : Int) - 1 := by rw [w3, i32_sub] <;> simp <;> omega
      have dnu : ∀ i, i < ix c + 1 → own_dn (own_u (own_x s (ix g)) 11 (ix c) 2) i := fun i hi => by
        by_cases y : i = ix c
        · rw [y]; exact ⟨own_u_eq _ _ _ _, by rw [own_u_c _ _ (by decide)]; exact f3 sr⟩
        · exact (own_dn_u y).mpr (R1 i (by omega))
      apply c32_in
      refine c21_in _ _ _ _ ⟨kb, gb, fun lt => ?_, fun lt => ⟨gb, ?_⟩⟩
      · rw [i32_lt, ed] at lt
        have ec : (c + 1).toInt = c.toInt + 1 := by rw [i32_add] <;> simp <;> omega
        have xc1 := ix_int (i := c + 1) (by omega)
        obtain ⟨kb1, ek1⟩ := own_key hg (i := c + 1) ⟨by omega, by omega⟩
        refine c21_in _ _ _ _ ⟨kb1, gb, gb, ?_⟩
        rw [ek, ek1, ← eu, show ix (c + 1) = ix c + 1 by omega]
        generalize ht : sI (sI u 11 (6 * ix g + (ix c + 1)) 1) 4 (ix g) 0 = t
        have tc : ∀ q j, q ≠ 4 → ¬ (q = 11 ∧ j = 6 * ix g + (ix c + 1)) → gI t q j = gI u q j := fun q j a b => by subst ht; rw [gI_sI, if_neg (fun w => a w.1), gI_sI, if_neg b]
        have t11 : gI t 11 (6 * ix g + (ix c + 1)) = 1 := by subst ht; simp [gI_sI]
        clear ht
        have ch' : own_ch s t (ix g) := ⟨fun j hj => by rw [tc 0 j (by decide) (by omega), ch.1 j hj], fun q j a b d hj => by rw [tc q j d (by omega), ch.2.1 q j a b d hj], fun q k a b hk => by rw [tc q k (by omega) (by omega), ch.2.2 q k a b hk]⟩
        have tx : own_x t (ix g) = own_u (own_u (own_x s (ix g)) 11 (ix c) 2) 11 (ix c + 1) 1 := by
          rw [← ux]
          exact own_x_u (by omega) (by decide) (fun c' i' h1 h2 h3 h4 => tc _ _ (by omega) (by omega)) t11
        refine h _ t (own_V_ch V ch' (own_To_cg Tu (fun j => tc 1 j (by decide) (by omega)) (fun j => tc 9 j (by decide) (by omega)) (fun j => tc 10 j (by decide) (by omega)) (fun j => tc 12 j (by decide) (by omega))) ?_ fun q => absurd q nfz) (own_fr_ch ch' fun q => absurd q nff)
        unfold own_Sg
        rw [tc 2 _ (by decide) (by omega), uq 2 _ (by decide), w2, tc 3 _ (by decide) (by omega), u3, tc 5 _ (by decide) (by omega), u5, tx]
        refine ⟨n, en, n6, fun i hi => ?_, fun i hi => ?_, Or.inr (Or.inr (Or.inl ⟨e2, ix c + 1, by omega, fun i hi => (own_dn_u (by omega)).mpr (dnu i hi), own_u_eq _ _ _ _, ?_, fun i hi hi2 => ?_, fun q => absurd rfl q⟩))⟩
        · rw [own_u_c _ _ (by decide), own_u_c _ _ (by decide), own_u_c _ _ (by decide), own_u_c _ _ (by decide)]; exact p1 i hi
        · rw [own_u_c _ _ (by decide), own_u_c _ _ (by decide)]; exact p2 i hi
        · rw [own_u_c _ _ (by decide), own_u_c _ _ (by decide)]; exact Or.inl (R4 _ (by omega) (by omega)).2
        · rw [own_u_i _ _ (by omega), own_u_i _ _ (by omega), own_u_i _ _ (by omega), own_u_i _ _ (by omega)]; exact R4 i (by omega) hi2
      · rw [i32_lt, ed] at lt
        rw [ek, ← eu]
        generalize ht : sI u 2 (ix g) 4 = t
        have tc : ∀ q j, ¬ (q = 2 ∧ j = ix g) → gI t q j = gI u q j := fun q j a => by subst ht; rw [gI_sI, if_neg a]
        have t2 : gI t 2 (ix g) = 4 := by subst ht; simp [gI_sI]
        clear ht
        have ch' : own_ch s t (ix g) := ⟨fun j hj => by rw [tc 0 j (by omega), ch.1 j hj], fun q j a b d hj => by rw [tc q j (fun w => hj w.2), ch.2.1 q j a b d hj], fun q k a b hk => by rw [tc q k (by omega), ch.2.2 q k a b hk]⟩
        refine ⟨gb, ?_⟩
        refine h _ t (own_V_ch V ch' (own_To_cg Tu (fun j => tc 1 j (by omega)) (fun j => tc 9 j (by omega)) (fun j => tc 10 j (by omega)) (fun j => tc 12 j (by omega))) ?_ fun q => absurd q nfz) (own_fr_ch ch' fun q => absurd q nff)
        unfold own_Sg
        rw [t2, tc 3 _ (by omega), u3, own_x_e (s := u) fun c' i' a _ _ => tc c' _ (by omega), ux]
        refine ⟨n, en, n6, fun i hi => ?_, fun i hi => ?_, Or.inr (Or.inr (Or.inr (Or.inr (Or.inl ⟨rfl, fun i hi => dnu i (by omega)⟩))))⟩
        · rw [own_u_c _ _ (by decide), own_u_c _ _ (by decide)]; exact p1 i hi
        · rw [own_u_c _ _ (by decide)]; exact p2 i hi
    · obtain ⟨u, eu, ch, Tu, ux, u3, u5, uq⟩ := put 3
      apply c33_in
      refine c21_in _ _ _ _ ⟨kb, ?_⟩
      rw [ek, ← eu]
      refine own_37 V g hg ch Tu n (ix c) (by rw [u3]; exact en) n6 cn' (fun i hi => ?_) (fun i hi => ?_) (fun i hi => ?_) (fun i hi hi2 => ?_) u5 (Or.inl e2) _ fun t Vt ft => ⟨gb, h _ t Vt ft⟩
      · rw [ux, own_u_c _ _ (by decide), own_u_c _ _ (by decide)]; exact p1 i hi
      · rw [ux, own_u_c _ _ (by decide)]; exact p2 i hi
      · rw [ux]; exact (own_dn_u (by omega)).mpr (R1 i hi)
      · rw [ux]
        by_cases y : i = ix c
        · rw [y]; refine Or.inl ⟨Or.inl (own_u_eq _ _ _ _), ?_⟩
          rw [own_u_c _ _ (by decide), f4 sr]; decide
        · exact (own_ab_u y).mpr (Or.inr (R4 i (by omega) hi2))
  · rw [if_neg (by rw [e2]; decide)] at e7 ⊢
    obtain ⟨n, en, n6, p1, p2, cn', R1, R2, R3, R4⟩ := cur.2 e2 e1
    obtain ⟨u, eu, ch, Tu, ux, u3, u5, uq⟩ := put 5
    refine ⟨fun q => absurd q (by decide), fun _ => ?_⟩
    apply c34_in
    refine c21_in _ _ _ _ ⟨kb, ?_⟩
    rw [ek, ← eu]
    refine own_37 V g hg ch Tu n (ix c) (by rw [u3]; exact en) n6 cn' (fun i hi => ?_) (fun i hi => ?_) (fun i hi => ?_) (fun i hi hi2 => ?_) u5 (Or.inr e2) _ fun t Vt ft => ⟨gb, h _ t Vt ft⟩
    · rw [ux, own_u_c _ _ (by decide), own_u_c _ _ (by decide)]; exact p1 i hi
    · rw [ux, own_u_c _ _ (by decide)]; exact p2 i hi
    · rw [ux]; exact (own_dn_u (by omega)).mpr (R1 i hi)
    · rw [ux]
      by_cases y : i = ix c
      · rw [y]; refine Or.inl ⟨Or.inr (own_u_eq _ _ _ _), ?_⟩
        rw [own_u_c _ _ (by decide)]; exact R4 fl e7 (by rw [e6]; exact xc.symm)
      · exact (own_ab_u y).mpr (R3 i (by omega) hi2)

theorem own_V_ch2 {pf af : Nat → Nat → Int32} {ini : Int} {s t : St} {g : Nat} (V : own_V pf af ini s) (c1 : ∀ c j, 2 ≤ c → c ≤ 8 → c ≠ 4 → j ≠ g → gI t c j = gI s c j) (c2 : ∀ c k, 9 ≤ c → c ≤ 12 → (k < 6 * g ∨ 6 * g + 6 ≤ k) → gI t c k = gI s c k) (T : own_To ini t) (S : own_Sg pf af t g) (hB : 0 ≤ (gI t 0 38).toInt ∧ (gI t 0 38).toInt ≤ 8) (hz : ∀ h : Nat, (gI t 0 38).toInt ≤ h → h ≠ g ∧ (gI s 0 38).toInt ≤ h) : own_V pf af ini t := by
  refine ⟨V.1, T, hB, fun h hh => ?_, fun h hh hb => ?_⟩
  · by_cases e : h = g
    · subst e; exact S
    · have := V.2.2.2.1 h hh
      unfold own_Sg at this ⊢
      have ex : own_x t h = own_x s h := own_x_e fun c i a b d => c2 c _ a b (by omega)
      rw [ex, c1 2 h (by decide) (by decide) (by decide) e, c1 3 h (by decide) (by decide) (by decide) e, c1 5 h (by decide) (by decide) (by decide) e, c1 6 h (by decide) (by decide) (by decide) e, c1 7 h (by decide) (by decide) (by decide) e, c1 8 h (by decide) (by decide) (by decide) e]
      exact this
  · obtain ⟨e, hb'⟩ := hz h hb
    rw [c1 2 h (by decide) (by decide) (by decide) e]; exact V.2.2.2.2 h hh hb'
/-- beginSaga -/
theorem own_d2 {pf af : Nat → Nat → Int32} {ini : Int} {s : St} (V : own_V pf af ini s) (Q : Int32 → St → Prop) (h : ∀ v t, own_V pf af ini t → own_fr s t → v.toInt ≤ 7 → Q v t) : calI PP 2 12 [.ref 0] s Q := by
  have nil : Q (-1) s := h _ s V (own_fr_rf s) (by decide)
  have rB := V.2.2.1
  apply c2_in
  refine ⟨fun _ => nil, fun _ => ⟨fun _ => ⟨fun _ => nil, fun b0 => ⟨fun _ => nil, fun b7 => ?_⟩⟩, fun _ => nil⟩⟩
  have b8 : (gI s 0 38).toInt ≤ 7 := by rw [i32_lt] at b7; simp at b7; exact b7
  have xb := ix_int rB.1
  have bb : inb 8 (gI s 0 38) := ⟨rB.1, by show _ < (8 : Int); omega⟩
  have eb : (gI s 0 38 + 1).toInt = (gI s 0 38).toInt + 1 := by rw [i32_add] <;> simp <;> omega
  refine ⟨bb, bb, bb, c23_in _ _ _ ⟨bb, bb, bb, bb, ?_⟩⟩
  generalize hb : gI s 0 38 = b at b8 xb eb rB ⊢
  generalize hu : sI (sI (sI (sI (sI (sI (sI s 2 (ix b) 1) 3 (ix b) 0) 4 (ix b) 0) 5 (ix b) 0) 6 (ix b) 0) 7 (ix b) 0) 8 (ix b) 0 = u
  have u38 : gI u 0 38 = b := by subst hu; simp [gI_sI, hb]
  rw [u38]
  have tc : ∀ q j, q ≠ 0 → ¬ (2 ≤ q ∧ q ≤ 8 ∧ j = ix b) → gI (sI u 0 38 (b + 1)) q j = gI s q j := fun q j a d => by
    subst hu
    rw [gI_sI, if_neg (fun w => a w.1), gI_sI, if_neg (by omega), gI_sI, if_neg (by omega), gI_sI, if_neg (by omega), gI_sI, if_neg (by omega), gI_sI, if_neg (by omega), gI_sI, if_neg (by omega), gI_sI, if_neg (by omega)]
  have t2 : gI (sI u 0 38 (b + 1)) 2 (ix b) = 1 := by subst hu; simp [gI_sI]
  have t3 : gI (sI u 0 38 (b + 1)) 3 (ix b) = 0 := by subst hu; simp [gI_sI]
  have t5 : gI (sI u 0 38 (b + 1)) 5 (ix b) = 0 := by subst hu; simp [gI_sI]
  have t38 : gI (sI u 0 38 (b + 1)) 0 38 = b + 1 := by simp [gI_sI]
  generalize sI u 0 38 (b + 1) = t at tc t2 t3 t5 t38 ⊢
  have s2 : gI s 2 (ix b) = 0 := V.2.2.2.2 (ix b) (by omega) (by rw [hb]; omega)
  have P := V.2.2.2.1 (ix b) (by omega)
  have z12 : ∀ i, own_x s (ix b) 12 i = 0 := by
    obtain ⟨n, en, n6, p1, p2, ph⟩ := P
    rcases ph with ⟨e, _, z⟩ | ⟨e, _⟩ | ⟨e, _⟩ | ⟨e, _⟩ | ⟨e, _⟩ | ⟨e, _⟩
    · exact fun i => p2 i (by omega)
    all_goals exact absurd (s2.symm.trans e) (by decide)
  refine h b t (own_V_ch2 (g := ix b) V (fun c j a b d hj => tc c j (by omega) (fun w => hj w.2.2)) (fun c k a b hk => tc c k (by omega) (by omega)) (own_To_cg V.2.1 (fun j => tc 1 j (by decide) (by omega)) (fun j => tc 9 j (by decide) (by omega)) (fun j => tc 10 j (by decide) (by omega)) (fun j => tc 12 j (by decide) (by omega))) ?_ (by rw [t38]; omega) (fun k hk => by rw [t38, eb] at hk; rw [hb]; omega)) (fun g hg hs => ?_) b8
  · unfold own_Sg
    rw [t2, t3, t5, own_x_e (s := s) fun c' i' a _ _ => tc c' _ (by omega) (by omega)]
    exact ⟨0, by decide, by decide, fun i hi => absurd hi (by omega), fun i _ => z12 i, Or.inr (Or.inl ⟨rfl, rfl, fun i hi => absurd hi (by omega)⟩)⟩
  · have ne : g ≠ ix b := fun w => by rw [w, s2] at hs; rcases hs with q | q <;> exact absurd q (by decide)
    exact ⟨tc 2 g (by decide) (fun w => ne w.2.2), tc 3 g (by decide) (fun w => ne w.2.2), fun i _ => tc 12 _ (by decide) (by omega)⟩
/-- startSaga -/
theorem own_d4 {pf af : Nat → Nat → Int32} {ini : Int} {s : St} (V : own_V pf af ini s) (g : Int32) (hg : 0 ≤ g.toInt ∧ g.toInt < 8) (Q : Int32 → St → Prop) (h : ∀ v t, own_V pf af ini t → own_fr s t → Q v t) : calI PP 4 12 [.ref 0, .int g] s Q := by
  have nil : ∀ v, Q v s := fun v => h v s V (own_fr_rf s)
  have xg := ix_int hg.1
  have gb : inb 8 g := hg
  apply c4_in
  refine ⟨fun _ => nil _, fun _ => own_19 _ _ hg _ ⟨fun q => absurd q (by decide), fun _ => ⟨gb, fun e1 => ⟨gb, fun _ => nil _, fun cz => ⟨gb, ?_⟩⟩, fun _ => nil _⟩⟩⟩
  obtain ⟨kb, ek⟩ := own_key hg (i := 0) (by decide)
  refine c21_in _ _ _ _ ⟨kb, gb, ?_⟩
  rw [ek, show ix (0 : Int32) = 0 from rfl, Nat.add_zero]
  generalize hu : sI (sI (sI s 2 (ix g) 2) 11 (6 * ix g) 1) 4 (ix g) 0 = u
  have uc : ∀ q j, q ≠ 2 → q ≠ 4 → q ≠ 11 → gI u q j = gI s q j := fun q j a b d => by subst hu; rw [gI_sI, if_neg (fun w => b w.1), gI_sI, if_neg (fun w => d w.1), gI_sI, if_neg (fun w => a w.1)]
  have u2 : ∀ j, gI u 2 j = if j = ix g then 2 else gI s 2 j := fun j => by subst hu; simp [gI_sI]
  have u11 : ∀ j, gI u 11 j = if j = 6 * ix g then 1 else gI s 11 j := fun j => by subst hu; simp [gI_sI]
  clear hu
  have P := V.2.2.2.1 (ix g) (by omega)
  obtain ⟨n, en, n6, p1, p2, ph⟩ := P
  have bu : gI s 5 (ix g) = 0 ∧ ∀ i, i < n → own_x s (ix g) 11 i = 0 ∧ own_x s (ix g) 12 i = 0 := by
    rcases ph with ⟨e, _⟩ | ⟨e, f, z⟩ | ⟨e, _⟩ | ⟨e, _⟩ | ⟨e, _⟩ | ⟨e, _⟩
    · exact absurd (e1.symm.trans e) (by decide)
    · exact ⟨f, z⟩
    all_goals exact absurd (e1.symm.trans e) (by decide)
  have n0 : 0 < n := by
    rcases Nat.eq_zero_or_pos n with w | w
    · exact absurd (Int32.toInt_inj.mp (by rw [en, w]; rfl)) cz
    · exact w
  have ch : own_ch s u (ix g) := ⟨fun j _ => uc 0 j (by decide) (by decide) (by decide), fun q j a b d hj => by
    by_cases w : q = 2
    · subst w; rw [u2, if_neg hj]
    · exact uc q j w d (by omega), fun q k a b hk => by
    by_cases w : q = 11
    · subst w; rw [u11, if_neg (by omega)]
    · exact uc q k (by omega) (by omega) w⟩
  have ux : own_x u (ix g) = own_u (own_x s (ix g)) 11 0 1 := own_x_u (by omega) (by decide) (fun c' i' h1 h2 h3 h4 => by
    by_cases w : c' = 11
    · subst w; rw [u11, if_neg (by omega)]
    · exact uc _ _ (by omega) (by omega) w) (by rw [u11, if_pos (by omega)])
  refine h _ u (own_V_ch V ch (own_To_cg V.2.1 (fun j => uc 1 j (by decide) (by decide) (by decide)) (fun j => uc 9 j (by decide) (by decide) (by decide)) (fun j => uc 10 j (by decide) (by decide) (by decide)) (fun j => uc 12 j (by decide) (by decide) (by decide))) ?_ fun q => absurd ((V.2.2.2.2 (ix g) (by omega) q).symm.trans e1) (by decide)) (own_fr_ch ch fun q => by rw [e1] at q; rcases q with q | q <;> exact absurd q (by decide))
  unfold own_Sg
  rw [u2, if_pos rfl, uc 3 _ (by decide) (by decide) (by decide), uc 5 _ (by decide) (by decide) (by decide), bu.1, ux]
  refine ⟨n, en, n6, fun i hi => ?_, fun i hi => ?_, Or.inr (Or.inr (Or.inl ⟨rfl, 0, n0, fun i hi => absurd hi (by omega), own_u_eq _ _ _ _, Or.inl (by rw [own_u_c _ _ (by decide)]; exact (bu.2 0 n0).2), fun i hi hi2 => by rw [own_u_i _ _ (by omega), own_u_i _ _ (by omega)]; exact bu.2 i hi2, fun q => absurd rfl q⟩))⟩
  · rw [own_u_c _ _ (by decide), own_u_c _ _ (by decide)]; exact p1 i hi
  · rw [own_u_c _ _ (by decide)]; exact p2 i hi
/-- addStep -/
theorem own_d3 {pf af : Nat → Nat → Int32} {ini : Int} {s : St} (V : own_V pf af ini s) (g p a : Int32) (hg : 0 ≤ g.toInt ∧ g.toInt < 8) (hpa : ∀ n : Nat, (gI s 3 (ix g)).toInt = n → p = pf (ix g) n ∧ a = af (ix g) n) (Q : Int32 → St → Prop) (h : ∀ v t, own_V pf af ini t → own_fr s t → Q v t) : calI PP 3 12 [.ref 0, .int g, .int p, .int a] s Q := by
  have nil : ∀ v, Q v s := fun v => h v s V (own_fr_rf s)
  have xg := ix_int hg.1
  have gb : inb 8 g := hg
  apply c3_in
  refine ⟨fun _ => nil _, fun _ => own_19 _ _ hg _ ⟨fun q => absurd q (by decide), fun _ => ⟨gb, fun e1 => ⟨fun _ => nil _, fun l0 => ⟨fun _ => nil _, fun l3 => ⟨fun _ => nil _, fun a1 => ⟨fun _ => nil _, fun a2 => ⟨gb, fun lt => ?_, fun _ => nil _⟩⟩⟩⟩⟩, fun _ => nil _⟩⟩⟩
  have hp : 0 ≤ p.toInt ∧ p.toInt ≤ 3 := by rw [i32_lt] at l0 l3; simp at l0 l3; exact ⟨l0, l3⟩
  have ha : 1 ≤ a.toInt ∧ a.toInt ≤ 100 := by rw [i32_lt] at a1 a2; simp at a1 a2; exact ⟨a1, a2⟩
  have P := V.2.2.2.1 (ix g) (by omega)
  obtain ⟨n, en, n6, p1, p2, ph⟩ := P
  have lt6 : n < 6 := by
    rw [i32_lt, en] at lt
    have lt : (n : Int) < 6 := lt
    omega
  obtain ⟨ep, ea⟩ := hpa n en
  have bu : gI s 5 (ix g) = 0 ∧ ∀ i, i < n → own_x s (ix g) 11 i = 0 ∧ own_x s (ix g) 12 i = 0 := by
    rcases ph with ⟨e, _⟩ | ⟨e, f, z⟩ | ⟨e, _⟩ | ⟨e, _⟩ | ⟨e, _⟩ | ⟨e, _⟩
    · exact absurd (e1.symm.trans e) (by decide)
    · exact ⟨f, z⟩
    all_goals exact absurd (e1.symm.trans e) (by decide)
  apply c22_in
  obtain ⟨kb, ek⟩ := own_key hg (i := gI s 3 (ix g)) ⟨by omega, by omega⟩
  have xn := ix_int (i := gI s 3 (ix g)) (by omega)
  have ixn : ix (gI s 3 (ix g)) = n := by omega
  have en1 : (gI s 3 (ix g) + 1).toInt = (n : Int) + 1 := by rw [i32_add] <;> simp <;> omega
  refine ⟨gb, c21_in _ _ _ _ ⟨kb, kb, kb, kb, gb, ?_⟩⟩
  rw [ek, ixn]
  generalize gI s 3 (ix g) + 1 = n1 at en1 ⊢
  generalize hu : sI (sI (sI (sI (sI s 9 (6 * ix g + n) p) 10 (6 * ix g + n) a) 11 (6 * ix g + n) 0) 12 (6 * ix g + n) 0) 3 (ix g) n1 = u
  have uc : ∀ q j, ¬ (q = 3 ∧ j = ix g) → ¬ (9 ≤ q ∧ q ≤ 12 ∧ j = 6 * ix g + n) → gI u q j = gI s q j := fun q j b d => by
    subst hu
    rw [gI_sI, if_neg b, gI_sI, if_neg (by omega), gI_sI, if_neg (by omega), gI_sI, if_neg (by omega), gI_sI, if_neg (by omega)]
  have u3 : gI u 3 (ix g) = n1 := by subst hu; simp [gI_sI]
  have u9 : gI u 9 (6 * ix g + n) = p := by subst hu; simp [gI_sI]
  have u10 : gI u 10 (6 * ix g + n) = a := by subst hu; simp [gI_sI]
  have u11 : gI u 11 (6 * ix g + n) = 0 := by subst hu; simp [gI_sI]
  have u12 : gI u 12 (6 * ix g + n) = 0 := by subst hu; simp [gI_sI]
  clear hu
  have s12 : gI s 12 (6 * ix g + n) = 0 := by rw [← own_x_at s (by decide) (by decide) lt6]; exact p2 n (Nat.le_refl _)
  have ch : own_ch s u (ix g) := ⟨fun j _ => uc 0 j (by omega) (by omega), fun q j a b d hj => uc q j (fun w => hj w.2) (by omega), fun q k a b hk => uc q k (by omega) (by omega)⟩
  have x12 : ∀ j, gI u 12 j = gI s 12 j := fun j => by
    by_cases y : j = 6 * ix g + n
    · rw [y, u12, s12]
    · exact uc 12 j (by omega) (fun w => y w.2.2)
  have Tu : own_To ini u := by
    obtain ⟨T1, T2, T3⟩ := V.2.1
    refine ⟨fun k hk => ?_, fun k hk => ?_, fun q hq => ?_⟩
    · by_cases y : k = 6 * ix g + n
      · rw [y, u10]; omega
      · rw [uc 10 k (by omega) (fun w => y w.2.2)]; exact T1 k hk
    · by_cases y : k = 6 * ix g + n
      · rw [y, u9]; exact hp
      · rw [uc 9 k (by omega) (fun w => y w.2.2)]; exact T2 k hk
    · rw [uc 1 q (by omega) (by omega)]
      have : own_sum (own_wt u q) 48 = own_sum (own_wt s q) 48 := own_sum_cg 48 fun k hk => by
        unfold own_wt
        by_cases y : k = 6 * ix g + n
        · rw [y, u12, s12, if_neg (fun w => absurd w.2 (by decide)), if_neg (fun w => absurd w.2 (by decide))]
        · rw [uc 9 k (by omega) (fun w => y w.2.2), uc 10 k (by omega) (fun w => y w.2.2), uc 12 k (by omega) (fun w => y w.2.2)]
      rw [this]; exact T3 q hq
  have ux : ∀ c i, i ≠ n → own_x u (ix g) c i = own_x s (ix g) c i := fun c i hi => by
    unfold own_x
    by_cases z : 9 ≤ c ∧ c ≤ 12 ∧ i < 6
    · rw [if_pos z, if_pos z]; exact uc c _ (by omega) (by omega)
    · rw [if_neg z, if_neg z]
  have un : own_x u (ix g) 9 n = p ∧ own_x u (ix g) 10 n = a ∧ own_x u (ix g) 11 n = 0 ∧ own_x u (ix g) 12 n = 0 := by
    rw [own_x_at u (by decide) (by decide) lt6, own_x_at u (by decide) (by decide) lt6, own_x_at u (by decide) (by decide) lt6, own_x_at u (by decide) (by decide) lt6]
    exact ⟨u9, u10, u11, u12⟩
  refine h _ u (own_V_ch V ch Tu ?_ fun q => absurd ((V.2.2.2.2 (ix g) (by omega) q).symm.trans e1) (by decide)) (own_fr_ch ch fun q => by rw [e1] at q; rcases q with q | q <;> exact absurd q (by decide))
  unfold own_Sg
  rw [uc 2 _ (by omega) (by omega), u3, uc 5 _ (by omega) (by omega), bu.1, e1]
  refine ⟨n + 1, by rw [en1]; rfl, by omega, fun i hi => ?_, fun i hi => ?_, Or.inr (Or.inl ⟨rfl, rfl, fun i hi => ?_⟩)⟩
  · by_cases y : i = n
    · rw [y, un.1, un.2.1]; exact ⟨ep, ea⟩
    · rw [ux 9 i y, ux 10 i y]; exact p1 i (by omega)
  · rw [ux 12 i (by omega)]; exact p2 i (by omega)
  · by_cases y : i = n
    · rw [y]; exact ⟨un.2.2.1, un.2.2.2⟩
    · rw [ux 11 i y, ux 12 i y]; exact bu.2 i (by omega)
/-- the constructor -/
theorem own_c0 (pf af : Nat → Nat → Int32) (x y z ini : Int32) (ei : ini = if x < 0 then 0 else if 500 < x then 500 else x) (Q : St → Prop) (h : ∀ t, own_V pf af ini.toInt t → (∀ g, g < 8 → gI t 2 g = 0) → Q t) : calV PP 0 0 [.ref 0, .int x, .int y, .int z] s0 Q := by
  have ri := own_cl_rng (by decide) ei
  simp at ri
  apply c0_in
  apply own_clamp
  rw [← ei]
  clear ei
  refine c0_113 _ _ _ _ _ _ ⟨fun _ => ⟨by decide, ?_⟩, fun q => absurd (by decide) q⟩
  refine c0_113 _ _ _ _ _ _ ⟨fun _ => ⟨by decide, ?_⟩, fun q => absurd (by decide) q⟩
  refine c0_113 _ _ _ _ _ _ ⟨fun _ => ⟨by decide, ?_⟩, fun q => absurd (by decide) q⟩
  refine c0_113 _ _ _ _ _ _ ⟨fun _ => ⟨by decide, ?_⟩, fun q => absurd (by decide) q⟩
  refine c0_113 _ _ _ _ _ _ ⟨fun q => absurd q (by decide), fun _ => ?_⟩
  apply own_clamp
  apply own_clamp
  generalize hA : sI _ 0 38 0 = A
  have a38 : gI A 0 38 = 0 := by subst hA; rfl
  have a1 : ∀ j, j < 4 → gI A 1 j = ini := fun j hj => by
    subst hA
    have : j = 0 ∨ j = 1 ∨ j = 2 ∨ j = 3 := by omega
    rcases this with rfl | rfl | rfl | rfl <;> rfl
  have az : ∀ c j, 2 ≤ c → gI A c j = 0 := fun c j hc => by
    subst hA
    rw [gI_sI, if_neg (by omega), gI_sI, if_neg (by omega), gI_sI, if_neg (by omega), gI_sI, if_neg (by omega), gI_sI, if_neg (by omega), gI_sI, if_neg (by omega), gI_sI, if_neg (by omega), gI_sI, if_neg (by omega)]
    rfl
  clear hA
  refine h A ⟨ri, ⟨fun k _ => by rw [az 10 k (by decide)]; decide, fun k _ => by rw [az 9 k (by decide)]; decide, fun p hp => ?_⟩, by rw [a38]; decide, fun g hg => ?_, fun g hg _ => az 2 g (by decide)⟩ (fun g _ => az 2 g (by decide))
  · rw [a1 p hp]
    have : own_sum (own_wt A p) 48 = own_sum (fun _ => 0) 48 := own_sum_cg 48 fun k _ => by
      unfold own_wt
      rw [az 12 k (by decide), if_neg (fun w => absurd w.2 (by decide))]
    have z : own_sum (fun _ => (0 : Int)) 48 = 0 := by decide
    rw [this, z]; omega
  · unfold own_Sg
    rw [az 2 g (by decide), az 3 g (by decide), az 5 g (by decide)]
    refine ⟨0, by decide, by decide, fun i hi => absurd hi (by omega), fun i _ => ?_, Or.inl ⟨rfl, rfl, rfl⟩⟩
    unfold own_x
    split
    · exact az 12 _ (by decide)
    · rfl

/-! bits of ints and longs -/
def own_bt (x : Int32) (j : Nat) : Bool := x.toBitVec.getLsbD j
def own_bl (x : Int64) (j : Nat) : Bool := x.toBitVec.getLsbD j
theorem own_i32 (i : Int32) (h0 : 0 ≤ i.toInt) : i = Int32.ofNat (ix i) := by
  have k := ix_int h0
  have r := rng32 i
  rw [i32_eq, Int32.toInt_ofNat_of_lt (by omega)]; omega
theorem own_sh31 (i : Int32) (h0 : 0 ≤ i.toInt) (h1 : i.toInt < 32) : (i &&& 31).toBitVec.smod 32 = BitVec.ofNat 32 (ix i) ∧ ix i < 32 := by
  have k := ix_int h0
  have hn : ix i < 32 := by omega
  have key : ∀ n : Fin 32, (Int32.ofNat n.val &&& 31).toBitVec.smod 32 = BitVec.ofNat 32 n.val := by decide
  have := key ⟨ix i, hn⟩
  rw [← own_i32 i h0] at this
  exact ⟨this, hn⟩
theorem own_bt_one (y : Int32) : (y &&& 1 = 0) ↔ own_bt y 0 = false := by
  unfold own_bt
  constructor
  · intro h
    have := congrArg (fun z => z.toBitVec.getLsbD 0) h
    simpa using this
  · intro h
    apply Int32.toBitVec_inj.mp
    apply BitVec.eq_of_getLsbD_eq
    intro j hj
    rw [Int32.toBitVec_and, BitVec.getLsbD_and]
    have e : (1 : Int32).toBitVec = 1#32 := by decide
    have z : (0 : Int32).toBitVec = 0#32 := by decide
    rw [e, z, BitVec.getLsbD_one]
    by_cases q : j = 0
    · subst q; rw [h, Bool.false_and]; simp
    · simp [q]
theorem own_bt_sar (x i : Int32) (h0 : 0 ≤ i.toInt) (h1 : i.toInt < 32) : own_bt (x >>> (i &&& 31)) 0 = own_bt x (ix i) := by
  obtain ⟨e, hn⟩ := own_sh31 i h0 h1
  unfold own_bt
  rw [Int32.toBitVec_shiftRight, e, BitVec.sshiftRight_eq', BitVec.getLsbD_sshiftRight]
  have e2 : (BitVec.ofNat 32 (ix i)).toNat = ix i := by simp; omega
  rw [e2]; simp [hn]
theorem own_bt_shr (x i : Int32) (h0 : 0 ≤ i.toInt) (h1 : i.toInt < 32) : ((x >>> (i &&& 31)) &&& 1 = 0) ↔ own_bt x (ix i) = false := by
  rw [own_bt_one, own_bt_sar x i h0 h1]
theorem own_bt_shl (i : Int32) (h0 : 0 ≤ i.toInt) (h1 : i.toInt < 32) (j : Nat) (hj : j < 32) : own_bt (1 <<< (i &&& 31)) j = decide (j = ix i) := by
  obtain ⟨e, hn⟩ := own_sh31 i h0 h1
  unfold own_bt
  have e2 : (BitVec.ofNat 32 (ix i)).toNat = ix i := by simp; omega
  have e1 : (1 : Int32).toBitVec = 1#32 := by decide
  rw [Int32.toBitVec_shiftLeft, e, BitVec.shiftLeft_eq', e2, BitVec.getLsbD_shiftLeft, e1, BitVec.getLsbD_one]
  by_cases q : j = ix i
  · subst q; simp [hj]
  · by_cases l : j < ix i
    · simp [l, q]
    · have : ¬ (j - ix i = 0) := by omega
      simp [q, this]
theorem own_bt_or (x i : Int32) (h0 : 0 ≤ i.toInt) (h1 : i.toInt < 32) (j : Nat) (hj : j < 32) : own_bt (x ||| (1 <<< (i &&& 31))) j = (own_bt x j || decide (j = ix i)) := by
  rw [← own_bt_shl i h0 h1 j hj]
  simp [own_bt]
theorem own_bt_neg (x : Int32) (j : Nat) (hj : j < 32) : own_bt (x ^^^ (-1)) j = !own_bt x j := by
  have e : (-1 : Int32).toBitVec = BitVec.allOnes 32 := by decide
  simp [own_bt, e, hj]
theorem own_bt_and (x y : Int32) (j : Nat) : own_bt (x &&& y) j = (own_bt x j && own_bt y j) := by simp [own_bt]
theorem own_bt_clr (x i : Int32) (h0 : 0 ≤ i.toInt) (h1 : i.toInt < 32) (j : Nat) (hj : j < 32) : own_bt (x &&& ((1 <<< (i &&& 31)) ^^^ (-1))) j = (own_bt x j && !decide (j = ix i)) := by
  rw [own_bt_and, own_bt_neg _ _ hj, own_bt_shl i h0 h1 j hj]
theorem own_bt_zero (x : Int32) : x = 0 ↔ ∀ j, j < 32 → own_bt x j = false := by
  constructor
  · intro h j _; rw [h]; simp [own_bt]
  · intro h
    apply Int32.toBitVec_inj.mp
    apply BitVec.eq_of_getLsbD_eq
    intro j hj
    have := h j hj
    have z : (0 : Int32).toBitVec = 0#32 := by decide
    rw [z]; simpa [own_bt] using this
theorem own_bt_0 (j : Nat) : own_bt 0 j = false := by simp [own_bt]
theorem own_bt_tst (x i : Int32) (h0 : 0 ≤ i.toInt) (h1 : i.toInt < 32) : (x &&& (1 <<< (i &&& 31)) = 0) ↔ own_bt x (ix i) = false := by
  have k := ix_int h0
  rw [own_bt_zero]
  constructor
  · intro h
    have := h (ix i) (by omega)
    rw [own_bt_and, own_bt_shl i h0 h1 _ (by omega)] at this
    simpa using this
  · intro h j hj
    rw [own_bt_and, own_bt_shl i h0 h1 _ hj]
    by_cases z : j = ix i
    · rw [z, h]; rfl
    · simp [z]
theorem own_bt_ext {x y : Int32} (h : ∀ j, j < 32 → own_bt x j = own_bt y j) : x = y :=
  Int32.toBitVec_inj.mp (BitVec.eq_of_getLsbD_eq h)
theorem own_bt_s16 (y : Int32) (j : Nat) (hj : j < 16) : own_bt (y <<< ((16 : Int32) &&& 31)) j = false := by
  have e : ((16 : Int32) &&& 31).toBitVec.smod 32 = 16#32 := by decide
  have e2 : (16#32).toNat = 16 := by decide
  unfold own_bt
  rw [Int32.toBitVec_shiftLeft, e, BitVec.shiftLeft_eq', e2, BitVec.getLsbD_shiftLeft]
  simp [hj]
theorem own_bt_15 (j : Nat) (hj : j < 32) : own_bt 15 j = decide (j < 4) := by
  have b : ∀ j : Fin 32, own_bt 15 j.val = decide (j.val < 4) := by decide
  exact b ⟨j, hj⟩
theorem own_bt_64k (j : Nat) (hj : j < 32) : own_bt 65535 j = decide (j < 16) := by
  have b : ∀ j : Fin 32, own_bt 65535 j.val = decide (j.val < 16) := by decide
  exact b ⟨j, hj⟩
/-! nibbles of a long -/
theorem own_sh63 (i : Int32) (h0 : 0 ≤ i.toInt) (h1 : i.toInt < 16) : ((4 * i).toInt64 &&& 63).toBitVec.smod 64 = BitVec.ofNat 64 (4 * ix i) ∧ ((4 * i).toInt64.toUInt64 &&& Int64.toUInt64 63).toBitVec % 64 = BitVec.ofNat 64 (4 * ix i) ∧ ix i < 16 := by
  have k := ix_int h0
  have hn : ix i < 16 := by omega
  have key : ∀ n : Fin 16, ((4 * Int32.ofNat n.val).toInt64 &&& 63).toBitVec.smod 64 = BitVec.ofNat 64 (4 * n.val) ∧ ((4 * Int32.ofNat n.val).toInt64.toUInt64 &&& Int64.toUInt64 63).toBitVec % 64 = BitVec.ofNat 64 (4 * n.val) := by decide
  have := key ⟨ix i, hn⟩
  rw [← own_i32 i h0] at this
  exact ⟨this.1, this.2, hn⟩
def own_nb (x : Int64) (i : Int32) : Int64 := Jvm.Free.XT.ushrL x (4 * i) &&& 15
theorem own_nb_bit (x : Int64) (i : Int32) (h0 : 0 ≤ i.toInt) (h1 : i.toInt < 16) (j : Nat) (hj : j < 64) : own_bl (own_nb x i) j = (own_bl x (4 * ix i + j) && decide (j < 4)) := by
  obtain ⟨_, e, hn⟩ := own_sh63 i h0 h1
  have e2 : (BitVec.ofNat 64 (4 * ix i)).toNat = 4 * ix i := by simp; omega
  have f : (15 : Int64).toBitVec = 15#64 := by decide
  have b15 : ∀ j : Fin 64, (15#64).getLsbD j.val = decide (j.val < 4) := by decide
  have c15 := b15 ⟨j, hj⟩
  simp only at c15
  unfold own_bl own_nb Jvm.Free.XT.ushrL
  rw [Int64.toBitVec_and, BitVec.getLsbD_and, f, c15]
  have g : ((x.toUInt64 >>> ((4 * i).toInt64.toUInt64 &&& Int64.toUInt64 63)).toInt64).toBitVec = x.toBitVec >>> (4 * ix i) := by
    show (x.toUInt64 >>> ((4 * i).toInt64.toUInt64 &&& Int64.toUInt64 63)).toBitVec = _
    rw [UInt64.toBitVec_shiftRight, e, BitVec.ushiftRight_eq', e2]
    rfl
  rw [g, BitVec.getLsbD_ushiftRight]
theorem own_bl_ext {x y : Int64} (h : ∀ j, j < 64 → own_bl x j = own_bl y j) : x = y :=
  Int64.toBitVec_inj.mp (BitVec.eq_of_getLsbD_eq h)
theorem own_bl_sml (v : Int32) (h0 : 0 ≤ v.toInt) (h1 : v.toInt < 16) (j : Nat) : 4 ≤ j → own_bl (Int32.toInt64 v) j = false := by
  intro hj
  have k := ix_int h0
  have hn : ix v < 16 := by omega
  have key : ∀ n : Fin 16, (Int32.ofNat n.val).toInt64.toBitVec = BitVec.ofNat 64 n.val := by decide
  have := key ⟨ix v, hn⟩
  rw [← own_i32 v h0] at this
  unfold own_bl
  rw [this]
  simp only [BitVec.getLsbD_ofNat]
  have : (ix v).testBit j = false := Nat.testBit_lt_two_pow (Nat.lt_of_lt_of_le hn (by
    have : 2 ^ 4 ≤ 2 ^ j := Nat.pow_le_pow_right (by decide) hj
    omega))
  simp [this]
/-- nibble i set to v -/
def own_ns4 (x : Int64) (i v : Int32) : Int64 := (x &&& (((15 : Int64) <<< ((4 * i).toInt64 &&& 63)) ^^^ (-1 : Int64))) ||| (Int32.toInt64 v <<< ((4 * i).toInt64 &&& 63))
theorem own_ns4_bit (x : Int64) (i v : Int32) (h0 : 0 ≤ i.toInt) (h1 : i.toInt < 16) (v0 : 0 ≤ v.toInt) (v1 : v.toInt < 16) (j : Nat) (hj : j < 64) : own_bl (own_ns4 x i v) j = if 4 * ix i ≤ j ∧ j < 4 * ix i + 4 then own_bl (Int32.toInt64 v) (j - 4 * ix i) else own_bl x j := by
  obtain ⟨e, _, hn⟩ := own_sh63 i h0 h1
  have e2 : (BitVec.ofNat 64 (4 * ix i)).toNat = 4 * ix i := by simp; omega
  have f : (15 : Int64).toBitVec = 15#64 := by decide
  have m1 : (-1 : Int64).toBitVec = BitVec.allOnes 64 := by decide
  have b15 : ∀ j : Nat, j < 64 → (15#64).getLsbD j = decide (j < 4) := fun j hj => by
    have b : ∀ j : Fin 64, (15#64).getLsbD j.val = decide (j.val < 4) := by decide
    exact b ⟨j, hj⟩
  have sml := own_bl_sml v v0 v1
  unfold own_bl at *
  unfold own_ns4
  rw [Int64.toBitVec_or, Int64.toBitVec_and, Int64.toBitVec_xor, Int64.toBitVec_shiftLeft, Int64.toBitVec_shiftLeft, e, BitVec.shiftLeft_eq', BitVec.shiftLeft_eq', e2, f, m1]
  rw [BitVec.getLsbD_or, BitVec.getLsbD_and, BitVec.getLsbD_xor, BitVec.getLsbD_shiftLeft, BitVec.getLsbD_shiftLeft, BitVec.getLsbD_allOnes, b15 _ (by omega)]
  by_cases l : j < 4 * ix i
  · rw [if_neg (by omega)]; simp [l, hj]
  · by_cases u : j < 4 * ix i + 4
    · rw [if_pos (by omega)]
      have : j - 4 * ix i < 4 := by omega
      simp [l, hj, this]
    · rw [if_neg (by omega), sml _ (by omega)]
      have : ¬ (j - 4 * ix i < 4) := by omega
      simp [hj, this]
theorem own_nb_set (x : Int64) (i v : Int32) (h0 : 0 ≤ i.toInt) (h1 : i.toInt < 16) (v0 : 0 ≤ v.toInt) (v1 : v.toInt < 16) (k : Int32) (k0 : 0 ≤ k.toInt) (k1 : k.toInt < 16) : own_nb (own_ns4 x i v) k = if k = i then Int32.toInt64 v else own_nb x k := by
  have ki := ix_int h0
  have kk := ix_int k0
  apply own_bl_ext
  intro j hj
  rw [own_nb_bit _ _ k0 k1 j hj]
  by_cases q : j < 4
  · rw [own_ns4_bit x i v h0 h1 v0 v1 _ (by omega)]
    by_cases z : k = i
    · rw [if_pos z]; subst z; rw [if_pos (by omega), Nat.add_sub_cancel_left]; simp [q]
    · rw [if_neg z, own_nb_bit _ _ k0 k1 j hj]
      rw [i32_eq] at z
      rw [if_neg (by omega)]
  · have : decide (j < 4) = false := by simp [q]
    rw [this, Bool.and_false]
    by_cases z : k = i
    · rw [if_pos z, own_bl_sml v v0 v1 j (by omega)]
    · rw [if_neg z, own_nb_bit _ _ k0 k1 j hj, this, Bool.and_false]

/-! single bits of a long -/
theorem own_sh64 (i : Int32) (h0 : 0 ≤ i.toInt) (h1 : i.toInt < 64) : (i.toInt64 &&& 63).toBitVec.smod 64 = BitVec.ofNat 64 (ix i) ∧ (i.toInt64.toUInt64 &&& Int64.toUInt64 63).toBitVec % 64 = BitVec.ofNat 64 (ix i) ∧ ix i < 64 := by
  have k := ix_int h0
  have hn : ix i < 64 := by omega
  have key : ∀ n : Fin 64, ((Int32.ofNat n.val).toInt64 &&& 63).toBitVec.smod 64 = BitVec.ofNat 64 n.val ∧ ((Int32.ofNat n.val).toInt64.toUInt64 &&& Int64.toUInt64 63).toBitVec % 64 = BitVec.ofNat 64 n.val := by decide
  have := key ⟨ix i, hn⟩
  rw [← own_i32 i h0] at this
  exact ⟨this.1, this.2, hn⟩
theorem own_bl_ushr (x : Int64) (i : Int32) (h0 : 0 ≤ i.toInt) (h1 : i.toInt < 64) (j : Nat) : own_bl (Jvm.Free.XT.ushrL x i) j = own_bl x (ix i + j) := by
  obtain ⟨_, e, hn⟩ := own_sh64 i h0 h1
  have e2 : (BitVec.ofNat 64 (ix i)).toNat = ix i := by simp; omega
  unfold own_bl Jvm.Free.XT.ushrL
  have g : ((x.toUInt64 >>> (i.toInt64.toUInt64 &&& Int64.toUInt64 63)).toInt64).toBitVec = x.toBitVec >>> (ix i) := by
    show (x.toUInt64 >>> (i.toInt64.toUInt64 &&& Int64.toUInt64 63)).toBitVec = _
    rw [UInt64.toBitVec_shiftRight, e, BitVec.ushiftRight_eq', e2]
    rfl
  rw [g, BitVec.getLsbD_ushiftRight]
theorem own_bl_zero (x : Int64) : x = 0 ↔ ∀ j, j < 64 → own_bl x j = false := by
  constructor
  · intro h j _; rw [h]; simp [own_bl]
  · intro h
    apply own_bl_ext
    intro j hj
    rw [h j hj]; simp [own_bl]
theorem own_bl_hi (x : Int64) (j : Nat) (h : 64 ≤ j) : own_bl x j = false := by
  unfold own_bl; exact BitVec.getLsbD_of_ge _ _ h
theorem own_bl_tst (x : Int64) (i : Int32) (h0 : 0 ≤ i.toInt) (h1 : i.toInt < 64) : (Jvm.Free.XT.ushrL x i &&& 1 = 0) ↔ own_bl x (ix i) = false := by
  have e1 : (1 : Int64).toBitVec = 1#64 := by decide
  rw [own_bl_zero]
  have b : ∀ j, own_bl (Jvm.Free.XT.ushrL x i &&& 1) j = (own_bl x (ix i + j) && decide (j = 0)) := fun j => by
    rw [← own_bl_ushr x i h0 h1 j]
    unfold own_bl
    rw [Int64.toBitVec_and, BitVec.getLsbD_and, e1, BitVec.getLsbD_one]
    simp
  constructor
  · intro h; have := h 0 (by decide); rw [b] at this; simpa using this
  · intro h j hj
    rw [b]
    by_cases w : j = 0
    · rw [w]; simpa using h
    · simp [w]
theorem own_bl_one (i : Int32) (h0 : 0 ≤ i.toInt) (h1 : i.toInt < 64) (j : Nat) (hj : j < 64) : own_bl ((1 : Int64) <<< (i.toInt64 &&& 63)) j = decide (j = ix i) := by
  obtain ⟨e, _, hn⟩ := own_sh64 i h0 h1
  have e2 : (BitVec.ofNat 64 (ix i)).toNat = ix i := by simp; omega
  have e1 : (1 : Int64).toBitVec = 1#64 := by decide
  unfold own_bl
  rw [Int64.toBitVec_shiftLeft, e, BitVec.shiftLeft_eq', e2, BitVec.getLsbD_shiftLeft, e1, BitVec.getLsbD_one]
  by_cases q : j = ix i
  · subst q; simp [hj]
  · by_cases l : j < ix i
    · simp [l, q]
    · have : ¬ (j - ix i = 0) := by omega
      simp [q, this]
theorem own_bl_or (x y : Int64) (j : Nat) : own_bl (x ||| y) j = (own_bl x j || own_bl y j) := by simp [own_bl]
theorem own_bl_and (x y : Int64) (j : Nat) : own_bl (x &&& y) j = (own_bl x j && own_bl y j) := by simp [own_bl]
theorem own_bl_neg (x : Int64) (j : Nat) (hj : j < 64) : own_bl (x ^^^ (-1)) j = !own_bl x j := by
  have e : (-1 : Int64).toBitVec = BitVec.allOnes 64 := by decide
  simp [own_bl, e, hj]
theorem own_bl_0 (j : Nat) : own_bl 0 j = false := by simp [own_bl]

theorem own_bl_shl (x : Int64) (q : Int32) (h0 : 0 ≤ q.toInt) (h1 : q.toInt < 64) (j : Nat) (hj : j < 64) : own_bl (x <<< (q.toInt64 &&& 63)) j = (decide (ix q ≤ j) && own_bl x (j - ix q)) := by
  obtain ⟨e, _, hn⟩ := own_sh64 q h0 h1
  have e2 : (BitVec.ofNat 64 (ix q)).toNat = ix q := by simp; omega
  unfold own_bl
  rw [Int64.toBitVec_shiftLeft, e, BitVec.shiftLeft_eq', e2, BitVec.getLsbD_shiftLeft]
  by_cases l : j < ix q
  · have : ¬ ix q ≤ j := by omega
    simp [l, this]
  · have : ix q ≤ j := by omega
    simp [l, this, hj]
/-- an 18 bit field -/
def own_f (x : Int64) (q : Int32) : Int64 := Jvm.Free.XT.ushrL x q &&& 262143
theorem own_f_bit (x : Int64) (q : Int32) (h0 : 0 ≤ q.toInt) (h1 : q.toInt < 64) (j : Nat) (hj : j < 64) : own_bl (own_f x q) j = (own_bl x (ix q + j) && decide (j < 18)) := by
  have f : (262143 : Int64).toBitVec = 262143#64 := by decide
  have b : ∀ j : Fin 64, (262143#64).getLsbD j.val = decide (j.val < 18) := by decide
  have c := b ⟨j, hj⟩
  simp only at c
  unfold own_f
  rw [own_bl_and, own_bl_ushr x q h0 h1]
  unfold own_bl
  rw [f, c]
theorem own_f_set {x d : Int64} {q : Int32} (h0 : 0 ≤ q.toInt) (h1 : q.toInt ≤ 36) (hd : ∀ j, 18 ≤ j → own_bl d j = false) (hz : own_f x q = 0) : own_f (x ||| (d <<< (q.toInt64 &&& 63))) q = d := by
  have xq := ix_int h0
  apply own_bl_ext
  intro j hj
  rw [own_f_bit _ q h0 (by omega) j hj, own_bl_or]
  by_cases l : j < 18
  · rw [own_bl_shl d q h0 (by omega) _ (by omega)]
    have z := congrArg (fun y => own_bl y j) hz
    simp only [own_f_bit x q h0 (show q.toInt < 64 by omega) j hj, own_bl_0] at z
    have z' : own_bl x (ix q + j) = false := by simpa [l] using z
    rw [z']
    have : ix q ≤ ix q + j := by omega
    simp [l, this]
  · rw [hd j (by omega)]; simp [l]
theorem own_f_oth {x d : Int64} {q p : Int32} (h0 : 0 ≤ q.toInt) (h1 : q.toInt ≤ 36) (p0 : 0 ≤ p.toInt) (p1 : p.toInt ≤ 36) (hd : ∀ j, 18 ≤ j → own_bl d j = false) (far : p.toInt + 18 ≤ q.toInt ∨ q.toInt + 18 ≤ p.toInt) : own_f (x ||| (d <<< (q.toInt64 &&& 63))) p = own_f x p := by
  have xq := ix_int h0
  have xp := ix_int p0
  apply own_bl_ext
  intro j hj
  rw [own_f_bit _ p p0 (by omega) j hj, own_f_bit _ p p0 (by omega) j hj, own_bl_or]
  by_cases l : j < 18
  · rw [own_bl_shl d q h0 (by omega) _ (by omega)]
    by_cases w : ix q ≤ ix p + j
    · rw [hd _ (by omega)]; simp
    · simp [w]
  · simp [l]
theorem own_bt_sarj (x i : Int32) (h0 : 0 ≤ i.toInt) (j : Nat) (h1 : ix i + j < 32) : own_bt (x >>> (i &&& 31)) j = own_bt x (ix i + j) := by
  have xi := ix_int h0
  obtain ⟨e, hn⟩ := own_sh31 i h0 (by omega)
  unfold own_bt
  rw [Int32.toBitVec_shiftRight, e, BitVec.sshiftRight_eq', BitVec.getLsbD_sshiftRight]
  have e2 : (BitVec.ofNat 32 (ix i)).toNat = ix i := by simp; omega
  have j32 : ¬ 32 ≤ j := by omega
  rw [e2]; simp [h1, j32]
theorem own_bt_shlx (x i : Int32) (h0 : 0 ≤ i.toInt) (h1 : i.toInt < 32) (j : Nat) (hj : j < 32) : own_bt (x <<< (i &&& 31)) j = (decide (ix i ≤ j) && own_bt x (j - ix i)) := by
  obtain ⟨e, hn⟩ := own_sh31 i h0 h1
  unfold own_bt
  have e2 : (BitVec.ofNat 32 (ix i)).toNat = ix i := by simp; omega
  rw [Int32.toBitVec_shiftLeft, e, BitVec.shiftLeft_eq', e2, BitVec.getLsbD_shiftLeft]
  by_cases l : j < ix i
  · have : ¬ ix i ≤ j := by omega
    simp [l, this]
  · have : ix i ≤ j := by omega
    simp [l, this, hj]
/-- a 3 bit field -/
def own_g (x q : Int32) : Int32 := (x >>> (q &&& 31)) &&& 7
theorem own_g_bit (x q : Int32) (h0 : 0 ≤ q.toInt) (h1 : q.toInt ≤ 21) (j : Nat) (hj : j < 32) : own_bt (own_g x q) j = (decide (j < 3) && own_bt x (ix q + j)) := by
  have xq := ix_int h0
  have b : ∀ j : Fin 32, own_bt 7 j.val = decide (j.val < 3) := by decide
  have c := b ⟨j, hj⟩
  simp only at c
  unfold own_g
  rw [own_bt_and, c]
  by_cases l : j < 3
  · rw [own_bt_sarj x q h0 j (by omega)]; simp [l]
  · simp [l]
theorem own_g_set {x d q : Int32} (h0 : 0 ≤ q.toInt) (h1 : q.toInt ≤ 21) (hd : ∀ j, 3 ≤ j → own_bt d j = false) (hz : own_g x q = 0) : own_g (x ||| (d <<< (q &&& 31))) q = d := by
  have xq := ix_int h0
  apply own_bt_ext
  intro j hj
  rw [own_g_bit _ q h0 h1 j hj]
  by_cases l : j < 3
  · have o : own_bt (x ||| (d <<< (q &&& 31))) (ix q + j) = (own_bt x (ix q + j) || own_bt (d <<< (q &&& 31)) (ix q + j)) := by simp [own_bt]
    rw [o, own_bt_shlx d q h0 (by omega) _ (by omega)]
    have z := congrArg (fun y => own_bt y j) hz
    simp only [own_g_bit x q h0 h1 j hj, own_bt_0] at z
    have z' : own_bt x (ix q + j) = false := by simpa [l] using z
    rw [z']
    have : ix q ≤ ix q + j := by omega
    simp [l, this]
  · rw [hd j (by omega)]; simp [l]
theorem own_g_oth {x d q p : Int32} (h0 : 0 ≤ q.toInt) (h1 : q.toInt ≤ 21) (p0 : 0 ≤ p.toInt) (p1 : p.toInt ≤ 21) (hd : ∀ j, 3 ≤ j → own_bt d j = false) (far : p.toInt + 3 ≤ q.toInt ∨ q.toInt + 3 ≤ p.toInt) : own_g (x ||| (d <<< (q &&& 31))) p = own_g x p := by
  have xq := ix_int h0
  have xp := ix_int p0
  apply own_bt_ext
  intro j hj
  rw [own_g_bit _ p p0 p1 j hj, own_g_bit _ p p0 p1 j hj]
  by_cases l : j < 3
  · have o : own_bt (x ||| (d <<< (q &&& 31))) (ix p + j) = (own_bt x (ix p + j) || own_bt (d <<< (q &&& 31)) (ix p + j)) := by simp [own_bt]
    rw [o, own_bt_shlx d q h0 (by omega) _ (by omega)]
    by_cases w : ix q ≤ ix p + j
    · rw [hd _ (by omega)]; simp
    · simp [w]
  · simp [l]
theorem own_bl_s8 (v : Int32) (h0 : 0 ≤ v.toInt) (h1 : v.toInt < 8) (j : Nat) (hj : 3 ≤ j) : own_bl (Int32.toInt64 v) j = false := by
  have k := ix_int h0
  have hn : ix v < 8 := by omega
  have key : ∀ n : Fin 8, (Int32.ofNat n.val).toInt64.toBitVec = BitVec.ofNat 64 n.val := by decide
  have := key ⟨ix v, hn⟩
  rw [← own_i32 v h0] at this
  unfold own_bl
  rw [this]
  simp only [BitVec.getLsbD_ofNat]
  have : (ix v).testBit j = false := Nat.testBit_lt_two_pow (Nat.lt_of_lt_of_le hn (by
    have : 2 ^ 3 ≤ 2 ^ j := Nat.pow_le_pow_right (by decide) hj
    omega))
  simp [this]
theorem own_ush4 (x : Int32) : 0 ≤ (Jvm.Free.XT.ushr x 4).toInt := by
  have z : own_bt (Jvm.Free.XT.ushr x 4) 31 = false := by
    unfold own_bt Jvm.Free.XT.ushr
    show ((x.toUInt32 >>> ((4 : Int32) &&& 31).toUInt32).toBitVec).getLsbD 31 = false
    have e : (((4 : Int32) &&& 31).toUInt32).toBitVec % 32 = 4#32 := by decide
    rw [UInt32.toBitVec_shiftRight, e]
    simp
  have h : (Jvm.Free.XT.ushr x 4).toBitVec.msb = false := by
    rw [BitVec.msb_eq_getLsbD_last]; exact z
  show 0 ≤ (Jvm.Free.XT.ushr x 4).toBitVec.toInt
  rw [BitVec.toInt_eq_msb_cond, h]
  simp

open Jvm.Free in
def own_mx (a0 a1 a2 : Int32) : Int32 := ((((((((((a0 * (31 : Int32)) + (a1 * (977 : Int32))) + (a2 * (7919 : Int32))) + (12345 : Int32)) ^^^ (XT.ushr ((((a0 * (31 : Int32)) + (a1 * (977 : Int32))) + (a2 * (7919 : Int32))) + (12345 : Int32)) (13 : Int32))) * (1540483477 : Int32)) ^^^ (XT.ushr ((((((a0 * (31 : Int32)) + (a1 * (977 : Int32))) + (a2 * (7919 : Int32))) + (12345 : Int32)) ^^^ (XT.ushr ((((a0 * (31 : Int32)) + (a1 * (977 : Int32))) + (a2 * (7919 : Int32))) + (12345 : Int32)) (13 : Int32))) * (1540483477 : Int32)) (15 : Int32))) * (668265261 : Int32)) ^^^ (XT.ushr ((((((((a0 * (31 : Int32)) + (a1 * (977 : Int32))) + (a2 * (7919 : Int32))) + (12345 : Int32)) ^^^ (XT.ushr ((((a0 * (31 : Int32)) + (a1 * (977 : Int32))) + (a2 * (7919 : Int32))) + (12345 : Int32)) (13 : Int32))) * (1540483477 : Int32)) ^^^ (XT.ushr ((((((a0 * (31 : Int32)) + (a1 * (977 : Int32))) + (a2 * (7919 : Int32))) + (12345 : Int32)) ^^^ (XT.ushr ((((a0 * (31 : Int32)) + (a1 * (977 : Int32))) + (a2 * (7919 : Int32))) + (12345 : Int32)) (13 : Int32))) * (1540483477 : Int32)) (15 : Int32))) * (668265261 : Int32)) (16 : Int32))) &&& (2147483647 : Int32))
def own_pf (sd : Int32) (g i : Nat) : Int32 := own_mx sd (Int32.ofNat g) (Int32.ofNat i) &&& 3
def own_af (sd : Int32) (g i : Nat) : Int32 := 1 + (Jvm.Free.XT.ushr (own_mx sd (Int32.ofNat g) (Int32.ofNat i)) 2) % 100
theorem own_l5 (L : Nat) (sg : Nat → Int32) (sd g i : Int32) (s : St) (g0 : 0 ≤ g.toInt) (i0 : 0 ≤ i.toInt) (Q : Int32 → Wd → Prop) (h : Q (own_pf sd (ix g) (ix i)) (W1 s)) : lalI PP QQ (some (L, sg)) 5 [.int sd, .int g, .int i] (W1 s) Q := by
  unfold own_pf at h
  rw [← own_i32 g g0, ← own_i32 i i0] at h
  apply l5W1_in
  apply l4W1_in
  exact ⟨s, rfl, h⟩
theorem own_l6 (L : Nat) (sg : Nat → Int32) (sd g i : Int32) (s : St) (g0 : 0 ≤ g.toInt) (i0 : 0 ≤ i.toInt) (Q : Int32 → Wd → Prop) (h : Q (own_af sd (ix g) (ix i)) (W1 s)) : lalI PP QQ (some (L, sg)) 6 [.int sd, .int g, .int i] (W1 s) Q := by
  unfold own_af at h
  rw [← own_i32 g g0, ← own_i32 i i0] at h
  apply l6W1_in
  apply l4W1_in
  exact ⟨s, rfl, h⟩
/-- getEntry -/
def own_ge (s : St) (g i : Nat) : Int32 := if (i : Int) < (gI s 3 g).toInt then gI s 12 (6 * g + i) else -1
theorem own_14 (s : St) (g i : Int32) (hg : 0 ≤ g.toInt ∧ g.toInt < 8) (hi : 0 ≤ i.toInt ∧ i.toInt < 6) (Q : Int32 → St → Prop) (h : Q (own_ge s (ix g) (ix i)) s) : calI PP 14 12 [.ref 0, .int g, .int i] s Q := by
  have xi := ix_int hi.1
  obtain ⟨kb, ek⟩ := own_key hg hi
  unfold own_ge at h
  apply c14_in
  refine own_19 _ _ hg _ ⟨fun q => absurd q (by decide), fun _ => own_20 s g i hg _ (fun n => ⟨fun _ => ?_, fun q => absurd rfl q⟩) fun _ lt _ => ⟨fun q => absurd q (by decide), fun _ => c21_in _ _ _ _ ⟨kb, ?_⟩⟩⟩
  · rw [if_neg (fun w => n ⟨hi.1, by omega, hi.2⟩)] at h; exact h
  · rw [if_pos (by omega)] at h; rw [ek]; exact h
theorem own_13 (s : St) (g i : Int32) (hg : 0 ≤ g.toInt ∧ g.toInt < 8) (hi : 0 ≤ i.toInt ∧ i.toInt < 6) (lt : i.toInt < (gI s 3 (ix g)).toInt) (Q : Int32 → St → Prop) (h : Q (gI s 11 (6 * ix g + ix i)) s) : calI PP 13 12 [.ref 0, .int g, .int i] s Q := by
  obtain ⟨kb, ek⟩ := own_key hg hi
  apply c13_in
  refine own_19 _ _ hg _ ⟨fun q => absurd q (by decide), fun _ => own_20 s g i hg _ (fun n => absurd ⟨hi.1, lt, hi.2⟩ n) fun _ _ _ => ⟨fun q => absurd q (by decide), fun _ => c21_in _ _ _ _ ⟨kb, ?_⟩⟩⟩
  rw [ek]; exact h
theorem own_12 (s : St) (g : Int32) (hg : 0 ≤ g.toInt ∧ g.toInt < 8) (Q : Int32 → St → Prop) (h : Q (gI s 3 (ix g)) s) : calI PP 12 12 [.ref 0, .int g] s Q := by
  apply c12_in
  exact own_19 _ _ hg _ ⟨fun q => absurd q (by decide), fun _ => ⟨hg, h⟩⟩
theorem own_11 (s : St) (g : Int32) (hg : 0 ≤ g.toInt ∧ g.toInt < 8) (Q : Int32 → St → Prop) (h : Q (gI s 2 (ix g)) s) : calI PP 11 12 [.ref 0, .int g] s Q := by
  apply c11_in
  exact own_19 _ _ hg _ ⟨fun q => absurd q (by decide), fun _ => ⟨hg, h⟩⟩
theorem own_sum_flat {w : Nat → Int} {a : Nat} : ∀ b, a ≤ b → (∀ k, a ≤ k → k < b → w k = 0) → own_sum w a = own_sum w b
  | 0, h, _ => by rw [show a = 0 by omega]
  | b + 1, h, z => by
    by_cases e : a = b + 1
    · rw [e]
    · show own_sum w a = own_sum w b + w b
      rw [z b (by omega) (by omega), own_sum_flat b (by omega) fun k h1 h2 => z k h1 (by omega)]; omega
theorem own_sum_mono {w : Nat → Int} {a : Nat} : ∀ b, a ≤ b → (∀ k, k < b → 0 ≤ w k) → own_sum w a ≤ own_sum w b
  | 0, h, _ => by rw [show a = 0 by omega]; exact Int.le_refl _
  | b + 1, h, z => by
    by_cases e : a = b + 1
    · rw [e]; exact Int.le_refl _
    · show own_sum w a ≤ own_sum w b + w b
      have := own_sum_mono b (by omega : a ≤ b) fun k hk => z k (by omega)
      have := z b (by omega)
      omega
theorem own_wt0 {ini : Int} {s : St} (T : own_To ini s) (p k : Nat) (hk : k < 48) : 0 ≤ own_wt s p k := by
  unfold own_wt
  by_cases y : (gI s 9 k).toInt = p ∧ gI s 12 k = 1
  · rw [if_pos y]; exact (T.1 k hk).1
  · rw [if_neg y]; omega
theorem own_add64 (x : Int64) (v : Int32) (h : 0 ≤ x.toInt ∧ x.toInt ≤ 500) (hv : 0 ≤ v.toInt ∧ v.toInt ≤ 100) : (x + Int32.toInt64 v).toInt = x.toInt + v.toInt := by
  have e := Jvm.Kit.i64_of_i32 v
  have p : (2 : Int) ^ 63 = 9223372036854775808 := by decide
  rw [Jvm.Kit.i64_add, e] <;> rw [e, p] <;> omega
theorem own_sub64 (x : Int64) (v : Int32) (h : 0 ≤ x.toInt ∧ x.toInt ≤ 500) (hv : 0 ≤ v.toInt ∧ v.toInt ≤ 500) : (Int32.toInt64 v - x).toInt = v.toInt - x.toInt := by
  have e := Jvm.Kit.i64_of_i32 v
  have p : (2 : Int) ^ 63 = 9223372036854775808 := by decide
  rw [Jvm.Kit.i64_sub, e] <;> rw [e, p] <;> omega
/-- the totals are asked -/
theorem own_chk1 (L : Nat) (sg : Nat → Int32) (ini sd x5 x6 x7 : Int32) (x8 x10 x12 : Int64) (x14 : Int32) (s : St) (V : own_V (own_pf sd) (own_af sd) ini.toInt s) (h : wplI PP QQ (some (L, sg)) 0 lm0 487 [some (.ref 0), none, some (.int ini), some (.ref 1), some (.int sd), some (.int x5), some (.int x6), some (.int x7), some (.long x8), none, some (.long x10), none, some (.long x12), none, some (.int x14), some (.int 0), none, none, none, none, none, none, none, none, none] [] (W1 s) (fun v _ => v = 1)) : wplI PP QQ (some (L, sg)) 0 lm0 360 [some (.ref 0), none, some (.int ini), some (.ref 1), some (.int sd), some (.int x5), some (.int x6), some (.int x7), some (.long x8), none, some (.long x10), none, some (.long x12), none, some (.int x14), none, none, none, none, none, none, none, none, none, none] [] (W1 s) (fun v _ => v = 1) := by
  obtain ⟨ri, T, rB, S, _⟩ := V
  apply l0_360
  refine loop_up (F := fun p => wplI PP QQ (some (L, sg)) 0 lm0 363 [some (.ref 0), none, some (.int ini), some (.ref 1), some (.int sd), some (.int x5), some (.int x6), some (.int x7), some (.long x8), none, some (.long x10), none, some (.long x12), none, some (.int x14), some (.int p), none, none, none, none, none, none, none, none, none] [] (W1 s) (fun v _ => v = 1)) 4 (by decide) (fun p p0 p1 e ih => ?_) (fun p hp => l0_363 _ _ _ _ _ _ _ _ _ _ _ _ _ ⟨fun q => absurd q (by rw [i32_lt, hp]; decide), fun _ => h⟩) 0 (by decide) (by decide)
  have xp := ix_int p0
  have T3 := T.2.2 (ix p) (by omega)
  have bnd : ∀ m, m ≤ 48 → 0 ≤ own_sum (own_wt s (ix p)) m ∧ own_sum (own_wt s (ix p)) m ≤ 500 := fun m hm => by
    have a := (own_wt_nn T (ix p) m hm).1
    have b := own_sum_mono (w := own_wt s (ix p)) (a := m) 48 hm fun k hk => own_wt0 T _ k hk
    omega
  refine l0_363 _ _ _ _ _ _ _ _ _ _ _ _ _ ⟨fun _ => ?_, fun q => absurd (by rw [i32_lt]; exact p1) q⟩
  refine loop_up (F := fun g => ∀ w : Int64, w.toInt = own_sum (own_wt s (ix p)) (6 * ix g) → wplI PP QQ (some (L, sg)) 0 lm0 375 [some (.ref 0), none, some (.int ini), some (.ref 1), some (.int sd), some (.int x5), some (.int x6), some (.int x7), some (.long x8), none, some (.long x10), none, some (.long x12), none, some (.int x14), some (.int p), some (.long w), none, some (.int g), none, none, none, none, none, none] [] (W1 s) (fun v _ => v = 1)) 8 (by decide) (fun g g0 g1 eg ihg w hw => ?_) (fun g hg w hw => ?_) 0 (by decide) (by decide) 0 (by rfl)
  · have xg := ix_int g0
    have xg1 := ix_int (i := g + 1) (by omega)
    obtain ⟨n, en, n6, p1', p2', _⟩ := S (ix g) (by omega)
    refine l0_375 _ _ _ _ _ _ _ _ _ _ _ _ _ _ _ ⟨fun _ => own_12 s g ⟨g0, g1⟩ _ ?_, fun q => absurd (by rw [i32_lt]; exact g1) q⟩
    refine loop_up (F := fun i => ∀ w : Int64, w.toInt = own_sum (own_wt s (ix p)) (6 * ix g + ix i) → wplI PP QQ (some (L, sg)) 0 lm0 393 [some (.ref 0), none, some (.int ini), some (.ref 1), some (.int sd), some (.int x5), some (.int x6), some (.int x7), some (.long x8), none, some (.long x10), none, some (.long x12), none, some (.int x14), some (.int p), some (.long w), none, some (.int g), some (.int (gI s 3 (ix g))), some (.int i), none, none, none, none] [] (W1 s) (fun v _ => v = 1)) (gI s 3 (ix g)).toInt (by omega) (fun i i0 i1 ei ihi w hw => ?_) (fun i hi w hw => ?_) 0 (by decide) (by simp; omega) w (by rw [hw]; rfl)
    · have xi := ix_int i0
      have xi1 := ix_int (i := i + 1) (by omega)
      have nx : own_sum (own_wt s (ix p)) (6 * ix g + ix (i + 1)) = own_sum (own_wt s (ix p)) (6 * ix g + ix i) + own_wt s (ix p) (6 * ix g + ix i) := by
        rw [show ix (i + 1) = ix i + 1 by omega]; rfl
      have s9 : gI s 9 (6 * ix g + ix i) = own_pf sd (ix g) (ix i) := by rw [← own_x_at s (by decide) (by decide) (by omega)]; exact (p1' _ (by omega)).1
      have s10 : gI s 10 (6 * ix g + ix i) = own_af sd (ix g) (ix i) := by rw [← own_x_at s (by decide) (by decide) (by omega)]; exact (p1' _ (by omega)).2
      have r10 := T.1 (6 * ix g + ix i) (by omega)
      rw [s10] at r10
      have bw := bnd (6 * ix g + ix i) (by omega)
      have ge1 : own_ge s (ix g) (ix i) = gI s 12 (6 * ix g + ix i) := if_pos (by omega)
      refine l0_393 _ _ _ _ _ _ _ _ _ _ _ _ _ _ _ _ _ ⟨fun _ => ⟨fun _ => own_l5 L sg sd g i s g0 i0 _ ⟨s, rfl, fun e1 => own_14 s g i ⟨g0, g1⟩ ⟨i0, by omega⟩ _ ⟨fun e2 => own_l6 L sg sd g i s g0 i0 _ ⟨s, rfl, l0_448 _ _ _ _ _ _ _ _ _ _ _ _ _ _ _ _ _ (ihi _ ?_)⟩, fun e2 => l0_448 _ _ _ _ _ _ _ _ _ _ _ _ _ _ _ _ _ (ihi w ?_)⟩, fun e1 => l0_448 _ _ _ _ _ _ _ _ _ _ _ _ _ _ _ _ _ (ihi w ?_)⟩, fun q => absurd (by rw [i32_lt]; show _ < (6 : Int); omega) q⟩, fun q => absurd (by rw [i32_lt]; exact i1) q⟩
      · rw [own_add64 _ _ (by omega) r10, nx, hw]
        unfold own_wt
        rw [if_pos ⟨by rw [s9, e1]; exact xp.symm, by rw [← ge1]; exact e2⟩, s10]
      · rw [nx, hw]
        have : own_wt s (ix p) (6 * ix g + ix i) = 0 := if_neg (fun y => e2 (by rw [ge1]; exact y.2))
        omega
      · rw [nx, hw]
        have : own_wt s (ix p) (6 * ix g + ix i) = 0 := if_neg (fun y => e1 (Int32.toInt_inj.mp (by rw [← s9, y.1]; exact xp)))
        omega
    · have xi := ix_int (i := i) (by omega)
      refine l0_393 _ _ _ _ _ _ _ _ _ _ _ _ _ _ _ _ _ ⟨fun q => absurd q (by rw [i32_lt]; omega), fun _ => l0_454 _ _ _ _ _ _ _ _ _ _ _ _ _ _ _ (ihg w ?_)⟩
      rw [hw]
      rw [show 6 * ix (g + 1) = 6 * ix g + 6 by omega]
      refine own_sum_flat _ (by omega) fun k h1 h2 => ?_
      have z := p2' (k - 6 * ix g) (by omega)
      rw [own_x_at s (by decide) (by decide) (by omega), show 6 * ix g + (k - 6 * ix g) = k by omega] at z
      exact if_neg (fun y => by rw [z] at y; exact absurd y.2 (by decide))
  · have xg := ix_int (i := g) (by omega)
    have g48 : 6 * ix g = 48 := by omega
    rw [g48] at hw
    have bw := bnd 48 (Nat.le_refl _)
    refine l0_375 _ _ _ _ _ _ _ _ _ _ _ _ _ _ _ ⟨fun q => absurd q (by rw [i32_lt, hg]; decide), fun _ => c15_in _ _ _ ⟨fun q => absurd q (by rw [i32_lt]; simp; omega), fun _ => ⟨fun q => absurd q (by rw [i32_lt]; simp; omega), fun _ => ⟨⟨p0, p1⟩, fun _ => ih, fun q => absurd (cmpL_eq.mpr (Int64.toInt_inj.mp ?_)) q⟩⟩⟩⟩
    rw [own_sub64 _ _ (by omega) ri, Jvm.Kit.i64_of_i32]
    omega

/-- the code of a saga's entries -/
def own_cd (s : St) (g : Nat) : Nat → Int64
  | 0 => 0
  | i + 1 => own_cd s g i ||| (Int32.toInt64 ((own_ge s g i + 1) &&& 7) <<< ((3 * Int32.ofNat i).toInt64 &&& 63))
theorem own_cd_cg {s t : St} {g : Nat} (h3 : gI t 3 g = gI s 3 g) (h : ∀ i, i < 6 → gI t 12 (6 * g + i) = gI s 12 (6 * g + i)) : ∀ n, n ≤ 6 → own_cd t g n = own_cd s g n
  | 0, _ => rfl
  | n + 1, hn => by
    show own_cd t g n ||| _ = own_cd s g n ||| _
    have : own_ge t g n = own_ge s g n := by unfold own_ge; rw [h3, h n (by omega)]
    rw [own_cd_cg h3 h n (by omega), this]
theorem own_and7 (x : Int32) : 0 ≤ (x &&& 7).toInt ∧ (x &&& 7).toInt < 8 := by
  have := Jvm.Kit.i32_mask x 7 (k := 3) (by decide) (by decide)
  rw [this]
  have e : ((2 : Int) ^ 3) = 8 := by decide
  omega
theorem own_cd_hi (s : St) (g : Nat) : ∀ n, n ≤ 6 → ∀ j, 3 * n ≤ j → own_bl (own_cd s g n) j = false
  | 0, _, j, _ => own_bl_0 j
  | n + 1, hn, j, hj => by
    show own_bl (own_cd s g n ||| _) j = false
    rw [own_bl_or, own_cd_hi s g n (by omega) j (by omega), Bool.false_or]
    by_cases l : j < 64
    · have e1 : (Int32.ofNat n).toInt = n := Int32.toInt_ofNat_of_lt (by omega)
      have e3 : (3 * Int32.ofNat n).toInt = 3 * n := by rw [i32_mul] <;> simp [e1] <;> omega
      have xq := ix_int (i := 3 * Int32.ofNat n) (by omega)
      rw [own_bl_shl _ _ (by omega) (by omega) j l]
      obtain ⟨v0, v1⟩ := own_and7 (own_ge s g n + 1)
      rw [own_bl_s8 _ v0 v1 _ (by omega), Bool.and_false]
    · exact own_bl_hi _ _ (by omega)
def own_sto (x8 x10 x12 : Int64) (g : Int32) : Int64 := if g < 3 then x8 else if g < 6 then x10 else x12
/-- what the law has stored -/
def own_M (s : St) (x6 x7 : Int32) (x8 x10 x12 : Int64) : Prop := ∀ g : Int32, 0 ≤ g.toInt → g.toInt < 8 → (own_bt x6 (ix g) = false ∧ own_g x7 (3 * g) = 0 ∧ own_f (own_sto x8 x10 x12 g) (g % 3 * 18) = 0) ∨ (own_bt x6 (ix g) = true ∧ own_g x7 (3 * g) = gI s 2 (ix g) ∧ own_f (own_sto x8 x10 x12 g) (g % 3 * 18) = own_cd s (ix g) 6 ∧ (gI s 2 (ix g) = 4 ∨ gI s 2 (ix g) = 5))
theorem own_M_fr {s t : St} {x6 x7 : Int32} {x8 x10 x12 : Int64} (M : own_M s x6 x7 x8 x10 x12) (f : own_fr s t) : own_M t x6 x7 x8 x10 x12 := fun g g0 g8 => by
  have xg := ix_int g0
  rcases M g g0 g8 with w | ⟨w1, w2, w3, w4⟩
  · exact Or.inl w
  · obtain ⟨a, b, c⟩ := f (ix g) (by omega) w4
    exact Or.inr ⟨w1, by rw [a]; exact w2, by rw [own_cd_cg b c 6 (Nat.le_refl _)]; exact w3, by rw [a]; exact w4⟩
theorem own_45 {d : Int32} (h : d = 4 ∨ d = 5) : ∀ j, 3 ≤ j → own_bt d j = false := fun j hj => by
  by_cases l : j < 32
  · have b : ∀ j : Fin 32, 3 ≤ j.val → own_bt 4 j.val = false ∧ own_bt 5 j.val = false := by decide
    have c := b ⟨j, l⟩ hj
    rcases h with rfl | rfl
    · exact c.1
    · exact c.2
  · unfold own_bt; exact BitVec.getLsbD_of_ge _ _ (by omega)
theorem own_q18 (h : Int32) (a : 0 ≤ h.toInt) : (h % 3 * 18).toInt = h.toInt % 3 * 18 := by
  have e : (h % 3).toInt = h.toInt % 3 := Jvm.Kit.i32_rem_nonneg a
  have m : (h % 3 * 18).toInt = (h % 3).toInt * 18 := i32_mul (x := h % 3) (y := 18) (by show (-2147483648 : Int) ≤ (h % 3).toInt * 18; omega) (by show (h % 3).toInt * 18 < 2147483648; omega)
  rw [m, e]
theorem own_M_up {s : St} {x6 x7 : Int32} {x8 x10 x12 : Int64} (M : own_M s x6 x7 x8 x10 x12) (g : Int32) (g0 : 0 ≤ g.toInt) (g8 : g.toInt < 8) (hb : own_bt x6 (ix g) = false) (hs : gI s 2 (ix g) = 4 ∨ gI s 2 (ix g) = 5) : own_M s (x6 ||| (1 <<< (g &&& 31))) (x7 ||| (gI s 2 (ix g) <<< ((3 * g) &&& 31))) (if g < 3 then x8 ||| (own_cd s (ix g) 6 <<< ((g % 3 * 18).toInt64 &&& 63)) else x8) (if g < 3 then x10 else if g < 6 then x10 ||| (own_cd s (ix g) 6 <<< ((g % 3 * 18).toInt64 &&& 63)) else x10) (if g < 3 then x12 else if g < 6 then x12 else x12 ||| (own_cd s (ix g) 6 <<< ((g % 3 * 18).toInt64 &&& 63))) := by
  have cdh : ∀ j, 18 ≤ j → own_bl (own_cd s (ix g) 6) j = false := fun j hj => own_cd_hi s (ix g) 6 (Nat.le_refl _) j hj
  have xg := ix_int g0
  have q3 : ∀ h : Int32, 0 ≤ h.toInt → h.toInt < 8 → (3 * h).toInt = 3 * h.toInt := fun h a b => by rw [i32_mul] <;> simp <;> omega
  have q18 : ∀ h : Int32, 0 ≤ h.toInt → h.toInt < 8 → (h % 3 * 18).toInt = h.toInt % 3 * 18 := fun h a b => own_q18 h a
  have eg3 := q3 g g0 g8
  have eg18 := q18 g g0 g8
  generalize hd : own_cd s (ix g) 6 <<< ((g % 3 * 18).toInt64 &&& 63) = D
  have st : ∀ h : Int32, 0 ≤ h.toInt → h.toInt < 8 → own_sto (if g < 3 then x8 ||| D else x8) (if g < 3 then x10 else if g < 6 then x10 ||| D else x10) (if g < 3 then x12 else if g < 6 then x12 else x12 ||| D) h = if h.toInt / 3 = g.toInt / 3 then own_sto x8 x10 x12 h ||| D else own_sto x8 x10 x12 h := fun h a b => by
    have l3 : ∀ y : Int32, y < 3 ↔ y.toInt < 3 := fun y => i32_lt
    have l6 : ∀ y : Int32, y < 6 ↔ y.toInt < 6 := fun y => i32_lt
    unfold own_sto
    simp only [l3, l6]
    by_cases a3 : g.toInt < 3
    · simp only [if_pos a3]
      by_cases b3 : h.toInt < 3
      · rw [if_pos b3, if_pos (by omega), if_pos b3]
      · rw [if_neg b3, if_neg (show ¬ h.toInt / 3 = g.toInt / 3 by omega), if_neg b3]
    · simp only [if_neg a3]
      by_cases a6 : g.toInt < 6
      · simp only [if_pos a6]
        by_cases b3 : h.toInt < 3
        · rw [if_pos b3, if_neg (by omega), if_pos b3]
        · rw [if_neg b3]
          by_cases b6 : h.toInt < 6
          · rw [if_pos b6, if_pos (by omega), if_neg b3, if_pos b6]
          · rw [if_neg b6, if_neg (by omega), if_neg b3, if_neg b6]
      · simp only [if_neg a6]
        by_cases b3 : h.toInt < 3
        · rw [if_pos b3, if_neg (by omega), if_pos b3]
        · rw [if_neg b3]
          by_cases b6 : h.toInt < 6
          · rw [if_pos b6, if_neg (by omega), if_neg b3, if_pos b6]
          · rw [if_neg b6, if_pos (by omega), if_neg b3, if_neg b6]
  intro h h0 h8
  have xh := ix_int h0
  have eh3 := q3 h h0 h8
  have eh18 := q18 h h0 h8
  rw [own_bt_or x6 g g0 (by omega) (ix h) (by omega), st h h0 h8]
  by_cases e : h = g
  · subst e
    rcases M h h0 h8 with ⟨_, z1, z2⟩ | ⟨w, _⟩
    · refine Or.inr ⟨by simp, own_g_set (by omega) (by omega) (own_45 hs) z1, ?_, hs⟩
      rw [if_pos rfl, ← hd]
      exact own_f_set (by omega) (by omega) cdh z2
    · rw [hb] at w; exact absurd w (by decide)
  · have ne : h.toInt ≠ g.toInt := fun w => e (Int32.toInt_inj.mp w)
    have ni : decide (ix h = ix g) = false := by simp; omega
    rw [ni, Bool.or_false, own_g_oth (q := 3 * g) (p := 3 * h) (by omega) (by omega) (by omega) (by omega) (own_45 hs) (by omega)]
    have ff : own_f (if h.toInt / 3 = g.toInt / 3 then own_sto x8 x10 x12 h ||| D else own_sto x8 x10 x12 h) (h % 3 * 18) = own_f (own_sto x8 x10 x12 h) (h % 3 * 18) := by
      by_cases y : h.toInt / 3 = g.toInt / 3
      · rw [if_pos y, ← hd]
        exact own_f_oth (by omega) (by omega) (by omega) (by omega) cdh (by omega)
      · rw [if_neg y]
    rw [ff]
    exact M h h0 h8
/-- the sagas are asked -/
theorem own_chk2 (L : Nat) (sg : Nat → Int32) (ini sd x5 : Int32) (x14 : Int32) (s : St) (V : own_V (own_pf sd) (own_af sd) ini.toInt s) (h : ∀ (x6 x7 : Int32) (x8 x10 x12 : Int64), own_M s x6 x7 x8 x10 x12 → wplI PP QQ (some (L, sg)) 0 lm0 77 [some (.ref 0), none, some (.int ini), some (.ref 1), some (.int sd), some (.int x5), some (.int x6), some (.int x7), some (.long x8), none, some (.long x10), none, some (.long x12), none, some (.int (x14 + 1)), none, none, none, none, none, none, none, none, none, none] [] (W1 s) (fun v _ => v = 1)) (x6 x7 : Int32) (x8 x10 x12 : Int64) (M : own_M s x6 x7 x8 x10 x12) : wplI PP QQ (some (L, sg)) 0 lm0 487 [some (.ref 0), none, some (.int ini), some (.ref 1), some (.int sd), some (.int x5), some (.int x6), some (.int x7), some (.long x8), none, some (.long x10), none, some (.long x12), none, some (.int x14), some (.int 0), none, none, none, none, none, none, none, none, none] [] (W1 s) (fun v _ => v = 1) := by
  obtain ⟨ri, T, rB, S, _⟩ := V
  refine loop_up (F := fun g => ∀ (x6 x7 : Int32) (x8 x10 x12 : Int64), own_M s x6 x7 x8 x10 x12 → wplI PP QQ (some (L, sg)) 0 lm0 487 [some (.ref 0), none, some (.int ini), some (.ref 1), some (.int sd), some (.int x5), some (.int x6), some (.int x7), some (.long x8), none, some (.long x10), none, some (.long x12), none, some (.int x14), some (.int g), none, none, none, none, none, none, none, none, none] [] (W1 s) (fun v _ => v = 1)) 8 (by decide) (fun g g0 g1 e ih x6 x7 x8 x10 x12 M => ?_) (fun g hg x6 x7 x8 x10 x12 M => l0_487 _ _ _ _ _ _ _ _ _ _ _ _ _ ⟨fun q => absurd q (by rw [i32_lt, hg]; decide), fun _ => h x6 x7 x8 x10 x12 M⟩) 0 (by decide) (by decide) x6 x7 x8 x10 x12 M
  have xg := ix_int g0
  have hg : 0 ≤ g.toInt ∧ g.toInt < 8 := ⟨g0, g1⟩
  obtain ⟨n, en, n6, p1, p2, ph⟩ := S (ix g) (by omega)
  refine l0_487 _ _ _ _ _ _ _ _ _ _ _ _ _ ⟨fun _ => own_11 s g hg _ (own_12 s g hg _ ?_), fun q => absurd (by rw [i32_lt]; exact g1) q⟩
  have end653 : wplI PP QQ (some (L, sg)) 0 lm0 653 [some (.ref 0), none, some (.int ini), some (.ref 1), some (.int sd), some (.int x5), some (.int x6), some (.int x7), some (.long x8), none, some (.long x10), none, some (.long x12), none, some (.int x14), some (.int g), some (.int (gI s 2 (ix g))), none, some (.long (own_cd s (ix g) 6)), none, none, none, none, none, none] [] (W1 s) (fun v _ => v = 1) := by
    refine l0_653 _ _ _ _ _ _ _ _ _ _ _ _ _ _ _ fun m207 e207 => ⟨fun b => ?_, fun b => ?_⟩
    · have hb := (own_bt_shr x6 g g0 (by omega)).mp b
      intro m213 e213 m214 e214 m215 e215 m216 e216 m217 e217
      by_cases s4 : gI s 2 (ix g) = 4
      · rw [if_pos s4] at e213 e214 e215 e216 e217
        subst e213 e214 e215 e216 e217
        exact l0_817 _ _ _ _ _ _ _ _ _ _ _ _ _ (ih _ _ _ _ _ (own_M_up M g g0 g1 hb (Or.inl s4)))
      · rw [if_neg s4] at e213 e214 e215 e216 e217
        by_cases s5 : gI s 2 (ix g) = 5
        · rw [if_pos s5] at e213 e214 e215 e216 e217
          subst e213 e214 e215 e216 e217
          exact l0_817 _ _ _ _ _ _ _ _ _ _ _ _ _ (ih _ _ _ _ _ (own_M_up M g g0 g1 hb (Or.inr s5)))
        · rw [if_neg s5] at e213 e214 e215 e216 e217
          subst e213 e214 e215 e216 e217
          exact l0_817 _ _ _ _ _ _ _ _ _ _ _ _ _ (ih _ _ _ _ _ M)
    · rcases M g g0 g1 with ⟨w, _⟩ | ⟨_, w2, w3, _⟩
      · exact absurd ((own_bt_shr x6 g g0 (by omega)).mpr w) b
      · have w3' : own_f m207 (g % 3 * 18) = own_cd s (ix g) 6 := by rw [e207]; exact w3
        exact ⟨fun _ => ⟨fun _ => l0_817 _ _ _ _ _ _ _ _ _ _ _ _ _ (ih _ _ _ _ _ M), fun q => absurd w2 q⟩, fun q => absurd (cmpL_eq.mpr w3') q⟩
  have end610 : wplI PP QQ (some (L, sg)) 0 lm0 610 [some (.ref 0), none, some (.int ini), some (.ref 1), some (.int sd), some (.int x5), some (.int x6), some (.int x7), some (.long x8), none, some (.long x10), none, some (.long x12), none, some (.int x14), some (.int g), some (.int (gI s 2 (ix g))), some (.int (gI s 3 (ix g))), some (.long (own_cd s (ix g) 6)), none, none, none, none, none, none] [] (W1 s) (fun v _ => v = 1) := by
    refine l0_610 _ _ _ _ _ _ _ _ _ _ _ _ _ _ _ _ ⟨fun s5 => ?_, fun _ => end653⟩
    have ab : ∀ i, i < n → own_ab (own_x s (ix g)) i := by
      rcases ph with ⟨w, _⟩ | ⟨w, _⟩ | ⟨w, _⟩ | ⟨w, _⟩ | ⟨w, _⟩ | ⟨w, z⟩
      all_goals first | exact z | exact absurd (s5.symm.trans w) (by decide)
    refine loop_up (F := fun i => wplI PP QQ (some (L, sg)) 0 lm0 619 [some (.ref 0), none, some (.int ini), some (.ref 1), some (.int sd), some (.int x5), some (.int x6), some (.int x7), some (.long x8), none, some (.long x10), none, some (.long x12), none, some (.int x14), some (.int g), some (.int (gI s 2 (ix g))), some (.int (gI s 3 (ix g))), some (.long (own_cd s (ix g) 6)), none, some (.int i), none, none, none, none] [] (W1 s) (fun v _ => v = 1)) (gI s 3 (ix g)).toInt (by omega) (fun i i0 i1 ei ihi => ?_) (fun i hi => l0_619 _ _ _ _ _ _ _ _ _ _ _ _ _ _ _ _ _ ⟨fun q => absurd q (by rw [i32_lt]; omega), fun _ => end653⟩) 0 (by decide) (by simp; omega)
    have xi := ix_int i0
    refine l0_619 _ _ _ _ _ _ _ _ _ _ _ _ _ _ _ _ _ ⟨fun _ => ⟨fun _ => own_14 s g i hg ⟨i0, by omega⟩ _ ⟨fun q => ?_, fun _ => ihi⟩, fun _ => end653⟩, fun _ => end653⟩
    have ge1 : own_ge s (ix g) (ix i) = gI s 12 (6 * ix g + ix i) := if_pos (by omega)
    rw [ge1, ← own_x_at s (by decide) (by decide) (by omega)] at q
    rcases ab (ix i) (by omega) with ⟨_, _, w⟩ | ⟨_, w⟩
    · exact absurd q w
    · exact absurd (w.symm.trans q) (by decide)
  have end562 : gI s 2 (ix g) = 4 → wplI PP QQ (some (L, sg)) 0 lm0 562 [some (.ref 0), none, some (.int ini), some (.ref 1), some (.int sd), some (.int x5), some (.int x6), some (.int x7), some (.long x8), none, some (.long x10), none, some (.long x12), none, some (.int x14), some (.int g), some (.int (gI s 2 (ix g))), some (.int (gI s 3 (ix g))), some (.long (own_cd s (ix g) 6)), none, some (.int 0), none, none, none, none] [] (W1 s) (fun v _ => v = 1) := by
    intro s4
    have dn : ∀ i, i < n → own_dn (own_x s (ix g)) i := by
      rcases ph with ⟨w, _⟩ | ⟨w, _⟩ | ⟨w, _⟩ | ⟨w, _⟩ | ⟨w, z⟩ | ⟨w, _⟩
      all_goals first | exact z | exact absurd (s4.symm.trans w) (by decide)
    refine loop_up (F := fun i => wplI PP QQ (some (L, sg)) 0 lm0 562 [some (.ref 0), none, some (.int ini), some (.ref 1), some (.int sd), some (.int x5), some (.int x6), some (.int x7), some (.long x8), none, some (.long x10), none, some (.long x12), none, some (.int x14), some (.int g), some (.int (gI s 2 (ix g))), some (.int (gI s 3 (ix g))), some (.long (own_cd s (ix g) 6)), none, some (.int i), none, none, none, none] [] (W1 s) (fun v _ => v = 1)) (gI s 3 (ix g)).toInt (by omega) (fun i i0 i1 ei ihi => ?_) (fun i hi => l0_562 _ _ _ _ _ _ _ _ _ _ _ _ _ _ _ _ _ ⟨fun q => absurd q (by rw [i32_lt]; omega), fun _ => end610⟩) 0 (by decide) (by simp; omega)
    have xi := ix_int i0
    have ge1 : own_ge s (ix g) (ix i) = gI s 12 (6 * ix g + ix i) := if_pos (by omega)
    obtain ⟨d1, d2⟩ := dn (ix i) (by omega)
    rw [own_x_at s (by decide) (by decide) (by omega)] at d1 d2
    exact l0_562 _ _ _ _ _ _ _ _ _ _ _ _ _ _ _ _ _ ⟨fun _ => ⟨fun _ => own_14 s g i hg ⟨i0, by omega⟩ _ ⟨fun _ => own_13 s g i hg ⟨i0, by omega⟩ i1 _ ⟨fun _ => ihi, fun q => absurd d1 q⟩, fun q => absurd (ge1.trans d2) q⟩, fun _ => end610⟩, fun _ => end610⟩
  refine loop_up (F := fun i => wplI PP QQ (some (L, sg)) 0 lm0 516 [some (.ref 0), none, some (.int ini), some (.ref 1), some (.int sd), some (.int x5), some (.int x6), some (.int x7), some (.long x8), none, some (.long x10), none, some (.long x12), none, some (.int x14), some (.int g), some (.int (gI s 2 (ix g))), some (.int (gI s 3 (ix g))), some (.long (own_cd s (ix g) (ix i))), none, some (.int i), none, none, none, none] [] (W1 s) (fun v _ => v = 1)) 6 (by decide) (fun i i0 i1 ei ihi => ?_) (fun i hi => ?_) 0 (by decide) (by decide)
  · have xi := ix_int i0
    have xi1 := ix_int (i := i + 1) (by omega)
    have nx : own_cd s (ix g) (ix (i + 1)) = own_cd s (ix g) (ix i) ||| (Int32.toInt64 ((own_ge s (ix g) (ix i) + 1) &&& 7) <<< ((3 * i).toInt64 &&& 63)) := by
      rw [show ix (i + 1) = ix i + 1 by omega]
      show own_cd s (ix g) (ix i) ||| (Int32.toInt64 ((own_ge s (ix g) (ix i) + 1) &&& 7) <<< ((3 * Int32.ofNat (ix i)).toInt64 &&& 63)) = _
      rw [← own_i32 i i0]
    rw [nx] at ihi
    exact l0_516 _ _ _ _ _ _ _ _ _ _ _ _ _ _ _ _ _ ⟨fun _ => own_14 s g i hg ⟨i0, i1⟩ _ ihi, fun q => absurd (by rw [i32_lt]; exact i1) q⟩
  · have i6 : ix i = 6 := by have := ix_int (i := i) (by omega); omega
    rw [i6]
    exact l0_516 _ _ _ _ _ _ _ _ _ _ _ _ _ _ _ _ _ ⟨fun q => absurd q (by rw [i32_lt, hi]; decide), fun _ => ⟨fun s4 => end562 s4, fun _ => end610⟩⟩

theorem own_gx (a x5 m : Int32) (ha : 0 ≤ a.toInt) (h5 : 0 ≤ x5.toInt ∧ x5.toInt ≤ 8) (e : m = if 7 < a % (x5 + 1) then 7 else a % (x5 + 1)) : 0 ≤ m.toInt ∧ m.toInt < 8 := by
  have e1 : (x5 + 1).toInt = x5.toInt + 1 := by rw [i32_add] <;> simp <;> omega
  have er : (a % (x5 + 1)).toInt = a.toInt % (x5.toInt + 1) := by rw [Jvm.Kit.i32_rem_nonneg ha, e1]
  have := Int.emod_nonneg a.toInt (show x5.toInt + 1 ≠ 0 by omega)
  have l7 : (7 < a % (x5 + 1)) ↔ 7 < (a % (x5 + 1)).toInt := i32_lt
  rw [e]
  by_cases w : 7 < a % (x5 + 1)
  · rw [if_pos w]; decide
  · rw [if_neg w]; rw [l7] at w; omega
theorem own_x5 (x5 v m : Int32) (h5 : 0 ≤ x5.toInt ∧ x5.toInt ≤ 8) (hv : v.toInt ≤ 7) (e : m = if v < 0 then x5 else v + 1) : 0 ≤ m.toInt ∧ m.toInt ≤ 8 := by
  have l0 : (v < 0) ↔ v.toInt < 0 := i32_lt
  rw [e]
  by_cases w : v < 0
  · rw [if_pos w]; exact h5
  · rw [if_neg w]; rw [l0] at w
    have e1 : (v + 1).toInt = v.toInt + 1 := by rw [i32_add] <;> simp <;> omega
    omega
theorem own_n0 (x5 : Int32) (h5 : 0 ≤ x5.toInt ∧ x5.toInt ≤ 8) : ¬ (x5 + 1) = 0 := by
  have e1 : (x5 + 1).toInt = x5.toInt + 1 := by rw [i32_add] <;> simp <;> omega
  intro q
  rw [i32_eq, e1] at q
  have q : x5.toInt + 1 = 0 := q
  omega
/-- one turn's act -/
theorem own_act (L : Nat) (sg : Nat → Int32) (ini sd x5 x6 x7 : Int32) (x8 x10 x12 : Int64) (x14 : Int32) (s : St) (V : own_V (own_pf sd) (own_af sd) ini.toInt s) (h5 : 0 ≤ x5.toInt ∧ x5.toInt ≤ 8) (hx : 3 < x14 → inb L x14) (nx : ∀ (t : St) (y : Int32), own_V (own_pf sd) (own_af sd) ini.toInt t → own_fr s t → (0 ≤ y.toInt ∧ y.toInt ≤ 8) → wplI PP QQ (some (L, sg)) 0 lm0 360 [some (.ref 0), none, some (.int ini), some (.ref 1), some (.int sd), some (.int y), some (.int x6), some (.int x7), some (.long x8), none, some (.long x10), none, some (.long x12), none, some (.int x14), none, none, none, none, none, none, none, none, none, none] [] (W1 t) (fun v _ => v = 1)) : wplI PP QQ (some (L, sg)) 0 lm0 90 [some (.ref 0), none, some (.int ini), some (.ref 1), some (.int sd), some (.int x5), some (.int x6), some (.int x7), some (.long x8), none, some (.long x10), none, some (.long x12), none, some (.int x14), none, none, none, none, none, none, none, none, none, none] [] (W1 s) (fun v _ => v = 1) := by
  have go : ∀ t, own_V (own_pf sd) (own_af sd) ini.toInt t → own_fr s t → wplI PP QQ (some (L, sg)) 0 lm0 360 [some (.ref 0), none, some (.int ini), some (.ref 1), some (.int sd), some (.int x5), some (.int x6), some (.int x7), some (.long x8), none, some (.long x10), none, some (.long x12), none, some (.int x14), none, none, none, none, none, none, none, none, none, none] [] (W1 t) (fun v _ => v = 1) := fun t Vt ft => nx t x5 Vt ft h5
  refine l0_90 _ _ _ _ _ _ _ _ _ _ _ _ ⟨fun a => ⟨hx a, own_n0 x5 h5, fun g eg => ?_⟩, fun _ => go s V (own_fr_rf s)⟩
  have hg := own_gx _ x5 g (own_ush4 _) h5 eg
  have xg := ix_int hg.1
  clear eg
  have add : wplI PP QQ (some (L, sg)) 0 lm0 172 [some (.ref 0), none, some (.int ini), some (.ref 1), some (.int sd), some (.int x5), some (.int x6), some (.int x7), some (.long x8), none, some (.long x10), none, some (.long x12), none, some (.int x14), none, none, none, some (.int g), none, none, none, none, none, none] [] (W1 s) (fun v _ => v = 1) := by
    refine l0_172 _ _ _ _ _ _ _ _ _ _ _ _ _ (own_12 s g hg _ ⟨fun _ => l0_210 _ _ _ _ _ _ _ _ _ _ _ _ (go s V (own_fr_rf s)), fun nn => ?_⟩)
    have n0 : 0 ≤ (gI s 3 (ix g)).toInt := by
      obtain ⟨n, en, _⟩ := V.2.2.2.1 (ix g) (by omega)
      omega
    have xn := ix_int n0
    refine own_l5 L sg sd g _ s hg.1 n0 _ ⟨s, rfl, own_l6 L sg sd g _ s hg.1 n0 _ ⟨s, rfl, own_d3 V g _ _ hg (fun n en => ?_) _ fun v t Vt ft => l0_210 _ _ _ _ _ _ _ _ _ _ _ _ (go t Vt ft)⟩⟩
    rw [show ix (gI s 3 (ix g)) = n by omega]
    exact ⟨rfl, rfl⟩
  have sta : wplI PP QQ (some (L, sg)) 0 lm0 226 [some (.ref 0), none, some (.int ini), some (.ref 1), some (.int sd), some (.int x5), some (.int x6), some (.int x7), some (.long x8), none, some (.long x10), none, some (.long x12), none, some (.int x14), none, none, none, some (.int g), none, none, none, none, none, none] [] (W1 s) (fun v _ => v = 1) := l0_226 _ _ _ _ _ _ _ _ _ _ _ _ _ (own_d4 V g hg _ fun v t Vt ft => go t Vt ft)
  have red : ∀ a : Int32, wplI PP QQ (some (L, sg)) 0 lm0 314 [some (.ref 0), none, some (.int ini), some (.ref 1), some (.int sd), some (.int x5), some (.int x6), some (.int x7), some (.long x8), none, some (.long x10), none, some (.long x12), none, some (.int x14), none, none, some (.int a), some (.int g), none, none, none, none, none, none] [] (W1 s) (fun v _ => v = 1) := fun a => l0_314 _ _ _ _ _ _ _ _ _ _ _ _ _ _ (own_d6 V g _ _ hg _ fun v t Vt ft => go t Vt ft)
  have r283 : ∀ o a : Int32, wplI PP QQ (some (L, sg)) 0 lm0 283 [some (.ref 0), none, some (.int ini), some (.ref 1), some (.int sd), some (.int x5), some (.int x6), some (.int x7), some (.long x8), none, some (.long x10), none, some (.long x12), none, some (.int x14), none, some (.int o), some (.int a), some (.int g), none, none, none, none, none, none] [] (W1 s) (fun v _ => v = 1) := fun o a => l0_283 _ _ _ _ _ _ _ _ _ _ _ _ _ _ _ ⟨fun _ => own_d8 V g hg _ fun v t Vt ft => go t Vt ft, fun _ => ⟨fun _ => red a, fun _ => ⟨fun _ => red a, fun _ => ⟨fun _ => own_d9 V _ fun v t Vt ft => go t Vt ft, fun _ => own_d10 V _ fun v t Vt ft => go t Vt ft⟩⟩⟩⟩
  have r259 : ∀ o a : Int32, wplI PP QQ (some (L, sg)) 0 lm0 259 [some (.ref 0), none, some (.int ini), some (.ref 1), some (.int sd), some (.int x5), some (.int x6), some (.int x7), some (.long x8), none, some (.long x10), none, some (.long x12), none, some (.int x14), none, some (.int o), some (.int a), some (.int g), none, none, none, none, none, none] [] (W1 s) (fun v _ => v = 1) := fun o a => l0_259 _ _ _ _ _ _ _ _ _ _ _ _ _ _ _ ⟨fun _ => r283 o a, fun _ => ⟨fun _ => r283 o a, fun _ => own_d7 V g hg _ fun v t Vt ft => go t Vt ft⟩⟩
  exact ⟨fun _ => own_d2 V _ fun v t Vt ft hv m em => nx t m Vt ft (own_x5 x5 v m h5 hv em), fun _ => ⟨fun _ => add, fun _ => ⟨fun _ => add, fun _ => ⟨fun _ => sta, fun _ => ⟨fun _ => sta, fun _ => ⟨fun _ => r259 _ _, fun _ => ⟨fun _ => r259 _ _, fun _ => own_d5 V g hg _ fun v t Vt ft => go t Vt ft⟩⟩⟩⟩⟩⟩⟩
theorem law_ok (L : Nat) (sg : Nat → Int32) (hN : (L : Int) ≤ (260 : Int32).toInt) : lalI PP QQ (some (L, sg)) 0 [.ref 0] W0 (fun v _ => v = 1) := by
  have hN : (L : Int) ≤ 260 := hN
  have eN : (Int32.ofNat L).toInt = L := Int32.toInt_ofNat_of_lt (by omega)
  have cellW0 : ∀ (x : Int32) (Q : Int32 → Wd → Prop), 0 ≤ x.toInt → (∀ v, Q v W0) → lalI PP QQ (some (L, sg)) 2 [.ref 0, .int x] W0 Q := fun x Q x0 h => l2r0W0_in _ _ _ _ ⟨fun a => ⟨⟨x0, by rw [i32_lt, eN] at a; exact a⟩, h _⟩, fun _ => h _⟩
  have cellW0p : ∀ (x : Int32) (Q : Int32 → Wd → Prop), 0 ≤ x.toInt → (∀ v, Q v W0p) → lalI PP QQ (some (L, sg)) 2 [.ref 0, .int x] W0p Q := fun x Q x0 h => l2r0W0p_in _ _ _ _ ⟨fun a => ⟨⟨x0, by rw [i32_lt, eN] at a; exact a⟩, h _⟩, fun _ => h _⟩
  have cellW1 : ∀ (x : Int32) (s : St) (Q : Int32 → Wd → Prop), 0 ≤ x.toInt → (∀ v, Q v (W1 s)) → lalI PP QQ (some (L, sg)) 2 [.ref 0, .int x] (W1 s) Q := fun x s Q x0 h => l2r0W1_in _ _ _ _ _ ⟨fun a => ⟨⟨x0, by rw [i32_lt, eN] at a; exact a⟩, h _⟩, fun _ => h _⟩
  have clW0 : ∀ (x lo hi : Int32) (Q : Int32 → Wd → Prop), Q (if x < lo then lo else if hi < x then hi else x) W0 → lalI PP QQ (some (L, sg)) 3 [.int x, .int lo, .int hi] W0 Q := fun x lo hi Q h => l3W0_in _ _ _ _ _ _ ⟨fun a => by rw [if_pos a] at h; exact h, fun a => ⟨fun b => by rw [if_neg a, if_pos b] at h; exact h, fun b => by rw [if_neg a, if_neg b] at h; exact h⟩⟩
  apply l0_in
  refine cellW0 0 _ (by decide) fun v2 => ⟨rfl, clW0 _ _ _ _ ⟨rfl, cellW0p 1 _ (by decide) fun v8 => ⟨rfl, cellW0p 2 _ (by decide) fun v11 => ⟨rfl, ?_⟩⟩⟩⟩
  generalize hini : (if v2 % 600 - 50 < 0 then (0 : Int32) else if 500 < v2 % 600 - 50 then 500 else v2 % 600 - 50) = ini
  -- the seed is read after the object is made: its state is the same for every seed
  have mk : ∀ sd : Int32, calV PP 0 0 [.ref 0, .int (v2 % 600 - 50), .int (v8 % 8 - 1), .int (v11 % 10)] s0 (fun s => own_V (own_pf sd) (own_af sd) ini.toInt s ∧ (∀ g, g < 8 → gI s 2 g = 0)) := fun sd => own_c0 (own_pf sd) (own_af sd) _ _ _ ini hini.symm _ fun t Vt z => ⟨Vt, z⟩
  refine calV.mono (mk (if 3 < L then sg 3 else 0)) fun s ⟨V, z2⟩ => ?_
  refine l2r0W1_in _ _ _ _ _ ?_
  have key : ∀ sd : Int32, own_V (own_pf sd) (own_af sd) ini.toInt s → ∃ s18, W1 s = W1 s18 ∧ wplI PP QQ (some (L, sg)) 0 lm0 56 [some (.ref 0), none, some (.int ini), some (.ref 1), some (.int sd), none, none, none, none, none, none, none, none, none, none, none, none, none, none, none, none, none, none, none, none] [] (W1 s18) (fun v _ => v = 1) := fun sd V => by
    refine ⟨s, rfl, l0_56 _ _ _ _ _ ?_⟩
    have M0 : own_M s 0 0 0 0 0 := fun g g0 g8 => Or.inl ⟨own_bt_0 _, by
      apply own_bt_ext
      intro j hj
      have q3 : (3 * g).toInt = 3 * g.toInt := by rw [i32_mul] <;> simp <;> omega
      rw [own_g_bit _ _ (by omega) (by omega) j hj, own_bt_0, own_bt_0, Bool.and_false], by
      apply own_bl_ext
      intro j hj
      have q := own_q18 g g0
      have e : own_sto 0 0 0 g = 0 := by unfold own_sto; simp
      rw [e, own_f_bit _ _ (by omega) (by omega) j hj, own_bl_0, own_bl_0, Bool.false_and]⟩
    have loop : ∀ (m : Nat) (x14 x5 x6 x7 : Int32) (x8 x10 x12 : Int64) (s : St), 3 ≤ x14.toInt → x14.toInt + m = 300 → (0 ≤ x5.toInt ∧ x5.toInt ≤ 8) → own_V (own_pf sd) (own_af sd) ini.toInt s → own_M s x6 x7 x8 x10 x12 → wplI PP QQ (some (L, sg)) 0 lm0 77 [some (.ref 0), none, some (.int ini), some (.ref 1), some (.int sd), some (.int x5), some (.int x6), some (.int x7), some (.long x8), none, some (.long x10), none, some (.long x12), none, some (.int x14), none, none, none, none, none, none, none, none, none, none] [] (W1 s) (fun v _ => v = 1) := by
      intro m
      induction m with
      | zero =>
        intro x14 x5 x6 x7 x8 x10 x12 s h3 hm h5 V M
        exact l0_77 _ _ _ _ _ _ _ _ _ _ _ _ ⟨fun q => absurd q (by rw [i32_lt, eN]; omega), fun _ => ⟨fun q => absurd q (fun w => by rw [w] at hm; exact absurd hm (by decide)), fun _ => rfl⟩⟩
      | succ m ih =>
        intro x14 x5 x6 x7 x8 x10 x12 s h3 hm h5 V M
        have e1 : (x14 + 1).toInt = x14.toInt + 1 := by rw [i32_add] <;> simp <;> omega
        have act : (3 < x14 → inb L x14) → wplI PP QQ (some (L, sg)) 0 lm0 90 [some (.ref 0), none, some (.int ini), some (.ref 1), some (.int sd), some (.int x5), some (.int x6), some (.int x7), some (.long x8), none, some (.long x10), none, some (.long x12), none, some (.int x14), none, none, none, none, none, none, none, none, none, none] [] (W1 s) (fun v _ => v = 1) := fun hx => own_act L sg ini sd x5 x6 x7 x8 x10 x12 x14 s V h5 hx fun t y Vt ft hy => own_chk1 L sg ini sd y x6 x7 x8 x10 x12 x14 t Vt (own_chk2 L sg ini sd y x14 t Vt (fun x6 x7 x8 x10 x12 M => ih (x14 + 1) y x6 x7 x8 x10 x12 t (by omega) (by omega) hy Vt M) x6 x7 x8 x10 x12 (own_M_fr M ft))
        exact l0_77 _ _ _ _ _ _ _ _ _ _ _ _ ⟨fun q => act fun _ => ⟨by omega, by rw [i32_lt, eN] at q; exact q⟩, fun _ => ⟨fun q => act fun w => by rw [q] at w; exact absurd w (by decide), fun _ => rfl⟩⟩
    exact loop 297 3 0 0 0 0 0 0 s (by decide) (by decide) (by decide) V M0
  refine ⟨fun a => ⟨⟨by decide, by rw [i32_lt, eN] at a; exact a⟩, key _ ?_⟩, fun a => key _ ?_⟩
  · rw [i32_lt, eN] at a
    have a : (3 : Int) < L := a
    rw [if_pos (by omega)] at V; exact V
  · rw [i32_lt, eN] at a
    have a : ¬ (3 : Int) < L := a
    rw [if_neg (by omega)] at V; exact V

theorem comes_1 {Post : Tables → Env → Array Value → State → Outcome → State → Prop} (hpost : ∀ tb e args s v u, (limb_1_1.after args s (.returned v) u = true ∧ limb_1_2.after args s (.returned v) u = true ∧ True) → FrameEnd s (.returned v) u (Jvm.fieldLocs frame_1_writes args s ++ Jvm.arrayLocs frame_1_arrays args s ++ Jvm.staticLocs frame_1_statics s) 40 640 → Post tb e args s (.returned v) u) :
    ArmFor flags0 classFile x code maxLocals ret World_1 tables_1 room_1 Calls_1 rest_1 Pre_1 Post := by
  intro l hfl _ _ p e ha hc hk s m args below hf hA hF happ hP
  obtain ⟨hcalls, hrest, hpre⟩ := hP
  obtain ⟨-, -, -, hnamed, -, -, -, hat⟩ := (Spec.applies_iff hf).mp happ
  obtain ⟨hg, hn⟩ := and_e (Cond.before_iff.mp (show (Jvm.Cond.and given_1 narrow_1).before args s = true from hpre))
  obtain ⟨h1, g0⟩ := and_e hg
  obtain ⟨w0, rfl⟩ : ∃ w0 : Value, args = #[w0] := by
    have hs : args.size = 1 := by simpa [Cond.value, given_1] using h1
    obtain ⟨L⟩ := args
    match L, hs with
    | [w0], _ => exact ⟨w0, rfl⟩
  have hw := fun d (hd : d ∈ tables_1) => atoms_spec (ws := Jvm.Cond.code x code maxLocals ret :: tables_1) hat d (List.mem_cons_of_mem _ hd)
  have hfit : Fit s := fun {y c} hc i hi => by
    obtain ⟨ha, rfl⟩ := Array.getElem?_eq_some_iff.mp hc
    have q := List.all_eq_true.mp ((Array.all_eq_true_iff_forall_mem.mp hF) _ (Array.getElem_mem ha)) i (List.mem_range.mpr hi)
    simpa [Array.getElem?_eq_getElem hi] using q
  obtain ⟨hn1, hn2⟩ := and_e hn
  obtain ⟨a, ea⟩ := arr_v hn1
  obtain rfl : w0 = .ref a := Option.some.inj ea
  obtain ⟨cl, A⟩ := Arr.start ea hn1
  obtain ⟨⟨-, hN⟩, hS⟩ := script_of hfit A ea hn2
  obtain ⟨f, w0, hr⟩ := law_run (law_ok cl.slots.size (fun i => match cl.slots[i]? with | some (.int x) => x | _ => 0) hN) (me := lm0) rfl
  have M : MetFree l x (head1 (Jvm.Cond.code x code maxLocals ret :: tables_1) room_1) (fun b U => b = #[.ref a] ∧ s.Warmed39 U.vm ∧ U.heap = s.heap) (fun _ _ _ _ _ => True) (fun _ U o U' => ∃ u L, o = .returned u ∧ (u = some (.int 1) ∧ Fr s.heap.size L) ∧ FrameEnd U o U' L 40 640) :=
    law_met (lkC s _ hw) (lkL s _ hw) (sc := some (cl.slots.size, fun i => match cl.slots[i]? with | some (.int x) => x | _ => 0)) (a := a) (me := lm0) rfl l (bytes := code) (chk_ok dk_l0) (as := [.ref 0]) rfl (Nat.le_of_ble_eq_true rfl) hr hS
  obtain ⟨n, o, h1, h2, h3, _, L, rfl, ⟨rfl, N⟩, hq⟩ := M p e ha hc hk s m _ below hf ((Spec.applies_iff_loose hf).mp happ).1 ⟨rfl, State.Warmed39.refl s, rfl⟩ trivial
  refine ⟨n, _, h1, h2, h3, hpost _ _ _ _ _ _ ⟨Cond.after_iff.mpr rfl, Cond.after_iff.mpr (eq_i res_at (Term.int_eval (1)) rfl), trivial⟩ ⟨hq.1, hq.2.1, (hq.2.2.sift fun y hy => Or.inr (N y hy)).mono (by decide) (by decide)⟩⟩
theorem main_1_1 : Claimed_1_1 := comes_1 fun _ _ _ _ _ _ h hF => ⟨h.1, hF⟩
theorem main_1_2 : Claimed_1_2 := comes_1 fun _ _ _ _ _ _ h hF => ⟨h.2.1, hF⟩
end Jvm.Pilot.@@N@@
namespace Jvm.Pilot.@@N@@
open Jvm Jvm.ClassFile Sem Op Lib Jvm.Free Jvm.Stand Jvm.Pilot.@@N@@.Jvm.D
/-! MADE BY PROGRAM (witnessworld.py) out of the Statement's table words and the real class files: 11 classes; the members and pool entries that the words name. The judged class is class 1, her method 6. -/
namespace start1
open Jvm.ClassFile
def u (s : String) : CpInfo := .utf8 (stringToUtf16 s)
/-- a pool by its gaps: so many unusable entries, then the entry; so many at the end -/
def gap : Nat → List CpInfo → List CpInfo
  | 0, r => r
  | n + 1, r => .unusable :: gap n r
def poolList (es : List (Nat × CpInfo)) (last : Nat) : List CpInfo := es.foldr (fun e r => gap e.1 (e.2 :: r)) (gap last [])
def pool (es : List (Nat × CpInfo)) (last : Nat) : Array CpInfo := ⟨poolList es last⟩
def fileOf (pool : Array CpInfo) (this : Nat) (attrs : Array Attribute := #[]) (ms : Array MethodInfo := #[]) (fl : Nat := 33) (sup : Nat := 0) (ifs : Array Nat := #[]) (fds : Array FieldInfo := #[]) : ClassFile where
  minorVersion := 0
  majorVersion := 65
  constantPool := pool
  accessFlags := fl
  thisClass := this
  superClass := sup
  interfaces := ifs
  fields := fds
  methods := ms
  attributes := attrs
def plain (name : String) (sup : Option ClassId) : Class where
  name := name
  kind := .ordinary
  loader := none
  accessFlags := 33
  super := sup
  interfaces := #[]
  cf := none
  fields := #[]
  methods := #[]
  instanceTypes := #[]
  staticTypes := #[]
  resolved := #[]
  callSites := []
  init := .initialized
  statics := none
  mirror := none

def pool0 : Array CpInfo := pool [(5, u "<init>"), (0, u "()V"), (1, .class_ 10), (1, u "java/lang/Object")] 113

def k0c0 : Code := { maxStack := 0, maxLocals := 1, code := object_method_1_code, exceptionTable := #[], attributes := #[] }
def k0m0 : Method := { name := "<init>", desc := "()V", sig := { parameters := [], returnType := none }, accessFlags := 1, code := some k0c0 }
/-- java/lang/Object -/
def k0 : Class := { plain "java/lang/Object" none with
  accessFlags := 33
  interfaces := #[]
  cf := some (fileOf pool0 8 #[] #[{ accessFlags := 1, nameIndex := 5, descriptorIndex := 6, attributes := #[] }] 33 0 #[] #[])
  fields := #[]
  methods := #[k0m0]
  instanceTypes := #[]
  staticTypes := #[]
  resolved := Array.replicate 124 none
  statics := none }

def pool1 : Array CpInfo := pool [(2, .class_ 4), (1, u "java/lang/Object"), (0, u "<init>"), (0, u "()V"), (0, .integer 1540483477), (0, .integer 668265261), (0, .integer 2147483647), (0, .methodref 11 12), (0, .class_ 13), (0, .nameAndType 14 15), (0, u "SagaCoordinatorOwnLaw"), (0, u "mix"), (0, u "(III)I"), (0, .methodref 11 17), (0, .nameAndType 18 19), (0, u "cell"), (0, u "([II)I"), (0, .methodref 11 21), (0, .nameAndType 22 15), (0, u "clamp"), (0, .class_ 24), (0, u "SagaCoordinator"), (0, .methodref 23 26), (0, .nameAndType 5 27), (0, u "(III)V"), (0, .methodref 23 29), (0, .nameAndType 30 31), (0, u "beginSaga"), (0, u "()I"), (0, .methodref 23 33), (0, .nameAndType 34 35), (0, u "getStepCount"), (0, u "(I)I"), (0, .methodref 11 37), (0, .nameAndType 38 15), (0, u "part"), (0, .methodref 11 40), (0, .nameAndType 41 15), (0, u "amt"), (0, .methodref 23 43), (0, .nameAndType 44 15), (0, u "addStep"), (0, .methodref 23 46), (0, .nameAndType 47 48), (0, u "startSaga"), (0, u "(I)Z"), (0, .methodref 23 50), (0, .nameAndType 51 35), (0, u "deliver"), (0, .methodref 23 53), (0, .nameAndType 54 35), (0, u "receive"), (0, .methodref 23 56), (0, .nameAndType 57 35), (0, u "timeout"), (0, .methodref 23 59), (0, .nameAndType 60 15), (0, u "redeliver"), (0, .methodref 23 62), (0, .nameAndType 63 64), (0, u "crash"), (0, u "()Z"), (0, .methodref 23 66), (0, .nameAndType 67 64), (0, u "recover"), (0, .methodref 23 69), (0, .nameAndType 70 71), (0, u "getEntry"), (0, u "(II)I"), (0, .methodref 23 73), (0, .nameAndType 74 35), (0, u "getTotal"), (0, .methodref 23 76), (0, .nameAndType 77 35), (0, u "getSagaStatus"), (0, .methodref 23 79), (0, .nameAndType 80 71), (0, u "getStepState"), (0, .long 262143), (4, u "law"), (0, u "([I)Z")] 4

def k1m0 : Method := { name := "<init>", desc := "()V", sig := { parameters := [], returnType := none }, accessFlags := 1, code := none }
def k1c1 : Code := { maxStack := 2, maxLocals := 2, code := method_2_code, exceptionTable := #[], attributes := #[] }
def k1m1 : Method := { name := "cell", desc := "([II)I", sig := { parameters := [(.array .int), .int], returnType := some .int }, accessFlags := 10, code := some k1c1 }
def k1c2 : Code := { maxStack := 2, maxLocals := 3, code := method_3_code, exceptionTable := #[], attributes := #[] }
def k1m2 : Method := { name := "clamp", desc := "(III)I", sig := { parameters := [.int, .int, .int], returnType := some .int }, accessFlags := 10, code := some k1c2 }
def k1c3 : Code := { maxStack := 3, maxLocals := 4, code := method_4_code, exceptionTable := #[], attributes := #[] }
def k1m3 : Method := { name := "mix", desc := "(III)I", sig := { parameters := [.int, .int, .int], returnType := some .int }, accessFlags := 10, code := some k1c3 }
def k1c4 : Code := { maxStack := 3, maxLocals := 3, code := method_5_code, exceptionTable := #[], attributes := #[] }
def k1m4 : Method := { name := "part", desc := "(III)I", sig := { parameters := [.int, .int, .int], returnType := some .int }, accessFlags := 10, code := some k1c4 }
def k1c5 : Code := { maxStack := 4, maxLocals := 3, code := method_6_code, exceptionTable := #[], attributes := #[] }
def k1m5 : Method := { name := "amt", desc := "(III)I", sig := { parameters := [.int, .int, .int], returnType := some .int }, accessFlags := 10, code := some k1c5 }
def k1c6 : Code := { maxStack := 6, maxLocals := 25, code := code, exceptionTable := #[], attributes := #[] }
def k1m6 : Method := { name := "law", desc := "([I)Z", sig := { parameters := [(.array .int)], returnType := some .boolean }, accessFlags := 9, code := some k1c6 }
/-- SagaCoordinatorOwnLaw -/
def k1 : Class := { plain "SagaCoordinatorOwnLaw" (some 0) with
  accessFlags := 49
  interfaces := #[]
  cf := some (fileOf pool1 11 #[] #[{ accessFlags := 1, nameIndex := 5, descriptorIndex := 6, attributes := #[] }, { accessFlags := 10, nameIndex := 18, descriptorIndex := 19, attributes := #[] }, { accessFlags := 10, nameIndex := 22, descriptorIndex := 15, attributes := #[] }, { accessFlags := 10, nameIndex := 14, descriptorIndex := 15, attributes := #[] }, { accessFlags := 10, nameIndex := 38, descriptorIndex := 15, attributes := #[] }, { accessFlags := 10, nameIndex := 41, descriptorIndex := 15, attributes := #[] }, { accessFlags := 9, nameIndex := 86, descriptorIndex := 87, attributes := #[] }] 49 2 #[] #[])
  fields := #[]
  methods := #[k1m0, k1m1, k1m2, k1m3, k1m4, k1m5, k1m6]
  instanceTypes := #[]
  staticTypes := #[]
  resolved := Array.replicate 92 none
  statics := none }

def pool2 : Array CpInfo := pool [(1, .methodref 2 3), (0, .class_ 4), (0, .nameAndType 5 6), (0, u "java/lang/Object"), (0, u "<init>"), (0, u "()V"), (0, .fieldref 8 9), (0, .class_ 10), (0, .nameAndType 11 12), (0, u "SagaCoordinator"), (0, u "total"), (0, u "[I"), (0, .fieldref 8 14), (0, .nameAndType 15 12), (0, u "status"), (0, .fieldref 8 17), (0, .nameAndType 18 12), (0, u "count"), (0, .fieldref 8 20), (0, .nameAndType 21 12), (0, u "retries"), (0, .fieldref 8 23), (0, .nameAndType 24 25), (0, u "slotFull"), (0, u "[Z"), (0, .fieldref 8 27), (0, .nameAndType 28 12), (0, u "slotStep"), (0, .fieldref 8 30), (0, .nameAndType 31 12), (0, u "slotKind"), (0, .fieldref 8 33), (0, .nameAndType 34 12), (0, u "slotReply"), (0, .fieldref 8 36), (0, .nameAndType 37 12), (0, u "part"), (0, .fieldref 8 39), (0, .nameAndType 40 12), (0, u "amt"), (0, .fieldref 8 42), (0, .nameAndType 43 12), (0, u "stState"), (0, .fieldref 8 45), (0, .nameAndType 46 12), (0, u "entry"), (0, .methodref 8 48), (0, .nameAndType 49 50), (0, u "clamp"), (0, u "(III)I"), (0, .fieldref 8 52), (0, .nameAndType 53 54), (0, u "maxRetries"), (0, u "I"), (0, .fieldref 8 56), (0, .nameAndType 57 54), (0, u "sagaLimit"), (0, .fieldref 8 59), (0, .nameAndType 60 61), (0, u "up"), (0, u "Z"), (0, .fieldref 8 63), (0, .nameAndType 64 54), (0, u "begun"), (0, .methodref 8 66), (0, .nameAndType 67 68), (0, u "clearSlot"), (0, u "(I)V"), (0, .methodref 8 70), (0, .nameAndType 71 72), (0, u "isValidSaga"), (0, u "(I)Z"), (0, .methodref 8 74), (0, .nameAndType 75 50), (0, u "appendStep"), (0, .methodref 8 77), (0, .nameAndType 78 79), (0, u "key"), (0, u "(II)I"), (0, .methodref 8 81), (0, .nameAndType 82 83), (0, u "outstandingStep"), (0, u "(I)I"), (0, .methodref 8 85), (0, .nameAndType 86 83), (0, u "outstandingKind"), (0, .methodref 8 88), (0, .nameAndType 89 50), (0, u "process"), (0, .methodref 8 91), (0, .nameAndType 92 79), (0, u "replyFor"), (0, .methodref 8 94), (0, .nameAndType 95 96), (0, u "setSlot"), (0, u "(IIII)V"), (0, .methodref 8 98), (0, .nameAndType 99 100), (0, u "isValidStep"), (0, u "(II)Z"), (0, .methodref 8 102), (0, .nameAndType 103 104), (0, u "wasSent"), (0, u "(III)Z"), (0, .methodref 8 106), (0, .nameAndType 107 108), (0, u "onReserveOk"), (0, u "(II)V"), (0, .methodref 8 110), (0, .nameAndType 111 108), (0, u "onReserveRefused"), (0, .methodref 8 113), (0, .nameAndType 114 108), (0, u "onReleaseOk"), (0, .methodref 8 116), (0, .nameAndType 117 108), (0, u "giveUp"), (0, .methodref 8 119), (0, .nameAndType 120 68), (0, u "applyReserve"), (0, .methodref 8 122), (0, .nameAndType 123 68), (0, u "applyRelease"), (0, .methodref 8 125), (0, .nameAndType 126 68), (0, u "compensate"), (0, .methodref 8 128), (0, .nameAndType 129 83), (0, u "highestDone"), (0, u "S_FREE"), (2, u "S_BUILDING"), (1, u "S_RUNNING"), (1, u "S_COMPENSATING"), (1, u "S_COMMITTED"), (1, u "S_ABORTED"), (1, u "ST_PENDING"), (0, u "ST_SENT"), (0, u "ST_DONE"), (0, u "ST_FAILED"), (0, u "ST_RELEASING"), (0, u "ST_COMPENSATED"), (0, u "E_NONE"), (0, u "E_RESERVED"), (0, u "E_REFUSED"), (0, u "E_RELEASED"), (0, u "E_CANCELLED"), (0, u "K_RESERVE"), (0, u "K_RELEASE"), (0, u "REPLY_OK"), (0, u "REPLY_REFUSED"), (0, u "R_STALE"), (0, u "T_RESENT"), (0, u "T_GAVE_UP"), (0, u "(III)V"), (3, u "beginSaga"), (0, u "()I"), (0, u "addStep"), (0, u "startSaga"), (0, u "deliver"), (0, u "redeliver"), (0, u "receive"), (0, u "timeout"), (0, u "crash"), (0, u "()Z"), (0, u "recover"), (0, u "getSagaStatus"), (0, u "getStepCount"), (0, u "getStepState"), (0, u "getEntry"), (0, u "getTotal")] 4

def k2c0 : Code := { maxStack := 5, maxLocals := 6, code := prog_1_method_1_code, exceptionTable := #[], attributes := #[] }
def k2m0 : Method := { name := "<init>", desc := "(III)V", sig := { parameters := [.int, .int, .int], returnType := none }, accessFlags := 1, code := some k2c0 }
def k2c1 : Code := { maxStack := 3, maxLocals := 2, code := prog_1_method_2_code, exceptionTable := #[], attributes := #[] }
def k2m1 : Method := { name := "beginSaga", desc := "()I", sig := { parameters := [], returnType := some .int }, accessFlags := 1, code := some k2c1 }
def k2c2 : Code := { maxStack := 4, maxLocals := 4, code := prog_1_method_3_code, exceptionTable := #[], attributes := #[] }
def k2m2 : Method := { name := "addStep", desc := "(III)I", sig := { parameters := [.int, .int, .int], returnType := some .int }, accessFlags := 1, code := some k2c2 }
def k2c3 : Code := { maxStack := 4, maxLocals := 2, code := prog_1_method_4_code, exceptionTable := #[], attributes := #[] }
def k2m3 : Method := { name := "startSaga", desc := "(I)Z", sig := { parameters := [.int], returnType := some .boolean }, accessFlags := 1, code := some k2c3 }
def k2c4 : Code := { maxStack := 5, maxLocals := 6, code := prog_1_method_5_code, exceptionTable := #[], attributes := #[] }
def k2m4 : Method := { name := "deliver", desc := "(I)I", sig := { parameters := [.int], returnType := some .int }, accessFlags := 1, code := some k2c4 }
def k2c5 : Code := { maxStack := 4, maxLocals := 4, code := prog_1_method_6_code, exceptionTable := #[], attributes := #[] }
def k2m5 : Method := { name := "redeliver", desc := "(III)I", sig := { parameters := [.int, .int, .int], returnType := some .int }, accessFlags := 1, code := some k2c5 }
def k2c6 : Code := { maxStack := 3, maxLocals := 4, code := prog_1_method_7_code, exceptionTable := #[], attributes := #[] }
def k2m6 : Method := { name := "receive", desc := "(I)I", sig := { parameters := [.int], returnType := some .int }, accessFlags := 1, code := some k2c6 }
def k2c7 : Code := { maxStack := 4, maxLocals := 3, code := prog_1_method_8_code, exceptionTable := #[], attributes := #[] }
def k2m7 : Method := { name := "timeout", desc := "(I)I", sig := { parameters := [.int], returnType := some .int }, accessFlags := 1, code := some k2c7 }
def k2c8 : Code := { maxStack := 3, maxLocals := 2, code := prog_1_method_9_code, exceptionTable := #[], attributes := #[] }
def k2m8 : Method := { name := "crash", desc := "()Z", sig := { parameters := [], returnType := some .boolean }, accessFlags := 1, code := some k2c8 }
def k2c9 : Code := { maxStack := 3, maxLocals := 2, code := prog_1_method_10_code, exceptionTable := #[], attributes := #[] }
def k2m9 : Method := { name := "recover", desc := "()Z", sig := { parameters := [], returnType := some .boolean }, accessFlags := 1, code := some k2c9 }
def k2c10 : Code := { maxStack := 2, maxLocals := 2, code := prog_1_method_11_code, exceptionTable := #[], attributes := #[] }
def k2m10 : Method := { name := "getSagaStatus", desc := "(I)I", sig := { parameters := [.int], returnType := some .int }, accessFlags := 1, code := some k2c10 }
def k2c11 : Code := { maxStack := 2, maxLocals := 2, code := prog_1_method_12_code, exceptionTable := #[], attributes := #[] }
def k2m11 : Method := { name := "getStepCount", desc := "(I)I", sig := { parameters := [.int], returnType := some .int }, accessFlags := 1, code := some k2c11 }
def k2c12 : Code := { maxStack := 4, maxLocals := 3, code := prog_1_method_13_code, exceptionTable := #[], attributes := #[] }
def k2m12 : Method := { name := "getStepState", desc := "(II)I", sig := { parameters := [.int, .int], returnType := some .int }, accessFlags := 1, code := some k2c12 }
def k2c13 : Code := { maxStack := 4, maxLocals := 3, code := prog_1_method_14_code, exceptionTable := #[], attributes := #[] }
def k2m13 : Method := { name := "getEntry", desc := "(II)I", sig := { parameters := [.int, .int], returnType := some .int }, accessFlags := 1, code := some k2c13 }
def k2c14 : Code := { maxStack := 2, maxLocals := 2, code := prog_1_method_15_code, exceptionTable := #[], attributes := #[] }
def k2m14 : Method := { name := "getTotal", desc := "(I)I", sig := { parameters := [.int], returnType := some .int }, accessFlags := 1, code := some k2c14 }
def k2c15 : Code := { maxStack := 2, maxLocals := 4, code := prog_1_method_18_code, exceptionTable := #[], attributes := #[] }
def k2m15 : Method := { name := "clamp", desc := "(III)I", sig := { parameters := [.int, .int, .int], returnType := some .int }, accessFlags := 2, code := some k2c15 }
def k2c16 : Code := { maxStack := 2, maxLocals := 2, code := prog_1_method_19_code, exceptionTable := #[], attributes := #[] }
def k2m16 : Method := { name := "isValidSaga", desc := "(I)Z", sig := { parameters := [.int], returnType := some .boolean }, accessFlags := 2, code := some k2c16 }
def k2c17 : Code := { maxStack := 3, maxLocals := 3, code := prog_1_method_20_code, exceptionTable := #[], attributes := #[] }
def k2m17 : Method := { name := "isValidStep", desc := "(II)Z", sig := { parameters := [.int, .int], returnType := some .boolean }, accessFlags := 2, code := some k2c17 }
def k2c18 : Code := { maxStack := 2, maxLocals := 3, code := prog_1_method_21_code, exceptionTable := #[], attributes := #[] }
def k2m18 : Method := { name := "key", desc := "(II)I", sig := { parameters := [.int, .int], returnType := some .int }, accessFlags := 2, code := some k2c18 }
def k2c19 : Code := { maxStack := 4, maxLocals := 6, code := prog_1_method_22_code, exceptionTable := #[], attributes := #[] }
def k2m19 : Method := { name := "appendStep", desc := "(III)I", sig := { parameters := [.int, .int, .int], returnType := some .int }, accessFlags := 2, code := some k2c19 }
def k2c20 : Code := { maxStack := 3, maxLocals := 2, code := prog_1_method_23_code, exceptionTable := #[], attributes := #[] }
def k2m20 : Method := { name := "clearSlot", desc := "(I)V", sig := { parameters := [.int], returnType := none }, accessFlags := 2, code := some k2c20 }
def k2c21 : Code := { maxStack := 3, maxLocals := 5, code := prog_1_method_24_code, exceptionTable := #[], attributes := #[] }
def k2m21 : Method := { name := "setSlot", desc := "(IIII)V", sig := { parameters := [.int, .int, .int, .int], returnType := none }, accessFlags := 2, code := some k2c21 }
def k2c22 : Code := { maxStack := 4, maxLocals := 5, code := prog_1_method_25_code, exceptionTable := #[], attributes := #[] }
def k2m22 : Method := { name := "outstandingStep", desc := "(I)I", sig := { parameters := [.int], returnType := some .int }, accessFlags := 2, code := some k2c22 }
def k2c23 : Code := { maxStack := 2, maxLocals := 2, code := prog_1_method_26_code, exceptionTable := #[], attributes := #[] }
def k2m23 : Method := { name := "outstandingKind", desc := "(I)I", sig := { parameters := [.int], returnType := some .int }, accessFlags := 2, code := some k2c23 }
def k2c24 : Code := { maxStack := 4, maxLocals := 5, code := prog_1_method_27_code, exceptionTable := #[], attributes := #[] }
def k2m24 : Method := { name := "wasSent", desc := "(III)Z", sig := { parameters := [.int, .int, .int], returnType := some .boolean }, accessFlags := 2, code := some k2c24 }
def k2c25 : Code := { maxStack := 2, maxLocals := 3, code := prog_1_method_28_code, exceptionTable := #[], attributes := #[] }
def k2m25 : Method := { name := "replyFor", desc := "(II)I", sig := { parameters := [.int, .int], returnType := some .int }, accessFlags := 2, code := some k2c25 }
def k2c26 : Code := { maxStack := 3, maxLocals := 5, code := prog_1_method_29_code, exceptionTable := #[], attributes := #[] }
def k2m26 : Method := { name := "process", desc := "(III)I", sig := { parameters := [.int, .int, .int], returnType := some .int }, accessFlags := 2, code := some k2c26 }
def k2c27 : Code := { maxStack := 5, maxLocals := 3, code := prog_1_method_30_code, exceptionTable := #[], attributes := #[] }
def k2m27 : Method := { name := "applyReserve", desc := "(I)V", sig := { parameters := [.int], returnType := none }, accessFlags := 2, code := some k2c27 }
def k2c28 : Code := { maxStack := 5, maxLocals := 3, code := prog_1_method_31_code, exceptionTable := #[], attributes := #[] }
def k2m28 : Method := { name := "applyRelease", desc := "(I)V", sig := { parameters := [.int], returnType := none }, accessFlags := 2, code := some k2c28 }
def k2c29 : Code := { maxStack := 5, maxLocals := 3, code := prog_1_method_32_code, exceptionTable := #[], attributes := #[] }
def k2m29 : Method := { name := "onReserveOk", desc := "(II)V", sig := { parameters := [.int, .int], returnType := none }, accessFlags := 2, code := some k2c29 }
def k2c30 : Code := { maxStack := 4, maxLocals := 3, code := prog_1_method_33_code, exceptionTable := #[], attributes := #[] }
def k2m30 : Method := { name := "onReserveRefused", desc := "(II)V", sig := { parameters := [.int, .int], returnType := none }, accessFlags := 2, code := some k2c30 }
def k2c31 : Code := { maxStack := 4, maxLocals := 3, code := prog_1_method_34_code, exceptionTable := #[], attributes := #[] }
def k2m31 : Method := { name := "onReleaseOk", desc := "(II)V", sig := { parameters := [.int, .int], returnType := none }, accessFlags := 2, code := some k2c31 }
def k2c32 : Code := { maxStack := 4, maxLocals := 3, code := prog_1_method_35_code, exceptionTable := #[], attributes := #[] }
def k2m32 : Method := { name := "giveUp", desc := "(II)V", sig := { parameters := [.int, .int], returnType := none }, accessFlags := 2, code := some k2c32 }
def k2c33 : Code := { maxStack := 4, maxLocals := 4, code := prog_1_method_36_code, exceptionTable := #[], attributes := #[] }
def k2m33 : Method := { name := "highestDone", desc := "(I)I", sig := { parameters := [.int], returnType := some .int }, accessFlags := 2, code := some k2c33 }
def k2c34 : Code := { maxStack := 4, maxLocals := 3, code := prog_1_method_37_code, exceptionTable := #[], attributes := #[] }
def k2m34 : Method := { name := "compensate", desc := "(I)V", sig := { parameters := [.int], returnType := none }, accessFlags := 2, code := some k2c34 }
/-- SagaCoordinator -/
def k2 : Class := { plain "SagaCoordinator" (some 0) with
  accessFlags := 49
  interfaces := #[]
  cf := some (fileOf pool2 8 #[] #[{ accessFlags := 1, nameIndex := 5, descriptorIndex := 161, attributes := #[] }, { accessFlags := 1, nameIndex := 165, descriptorIndex := 166, attributes := #[] }, { accessFlags := 1, nameIndex := 167, descriptorIndex := 50, attributes := #[] }, { accessFlags := 1, nameIndex := 168, descriptorIndex := 72, attributes := #[] }, { accessFlags := 1, nameIndex := 169, descriptorIndex := 83, attributes := #[] }, { accessFlags := 1, nameIndex := 170, descriptorIndex := 50, attributes := #[] }, { accessFlags := 1, nameIndex := 171, descriptorIndex := 83, attributes := #[] }, { accessFlags := 1, nameIndex := 172, descriptorIndex := 83, attributes := #[] }, { accessFlags := 1, nameIndex := 173, descriptorIndex := 174, attributes := #[] }, { accessFlags := 1, nameIndex := 175, descriptorIndex := 174, attributes := #[] }, { accessFlags := 1, nameIndex := 176, descriptorIndex := 83, attributes := #[] }, { accessFlags := 1, nameIndex := 177, descriptorIndex := 83, attributes := #[] }, { accessFlags := 1, nameIndex := 178, descriptorIndex := 79, attributes := #[] }, { accessFlags := 1, nameIndex := 179, descriptorIndex := 79, attributes := #[] }, { accessFlags := 1, nameIndex := 180, descriptorIndex := 83, attributes := #[] }, { accessFlags := 2, nameIndex := 49, descriptorIndex := 50, attributes := #[] }, { accessFlags := 2, nameIndex := 71, descriptorIndex := 72, attributes := #[] }, { accessFlags := 2, nameIndex := 99, descriptorIndex := 100, attributes := #[] }, { accessFlags := 2, nameIndex := 78, descriptorIndex := 79, attributes := #[] }, { accessFlags := 2, nameIndex := 75, descriptorIndex := 50, attributes := #[] }, { accessFlags := 2, nameIndex := 67, descriptorIndex := 68, attributes := #[] }, { accessFlags := 2, nameIndex := 95, descriptorIndex := 96, attributes := #[] }, { accessFlags := 2, nameIndex := 82, descriptorIndex := 83, attributes := #[] }, { accessFlags := 2, nameIndex := 86, descriptorIndex := 83, attributes := #[] }, { accessFlags := 2, nameIndex := 103, descriptorIndex := 104, attributes := #[] }, { accessFlags := 2, nameIndex := 92, descriptorIndex := 79, attributes := #[] }, { accessFlags := 2, nameIndex := 89, descriptorIndex := 50, attributes := #[] }, { accessFlags := 2, nameIndex := 120, descriptorIndex := 68, attributes := #[] }, { accessFlags := 2, nameIndex := 123, descriptorIndex := 68, attributes := #[] }, { accessFlags := 2, nameIndex := 107, descriptorIndex := 108, attributes := #[] }, { accessFlags := 2, nameIndex := 111, descriptorIndex := 108, attributes := #[] }, { accessFlags := 2, nameIndex := 114, descriptorIndex := 108, attributes := #[] }, { accessFlags := 2, nameIndex := 117, descriptorIndex := 108, attributes := #[] }, { accessFlags := 2, nameIndex := 129, descriptorIndex := 83, attributes := #[] }, { accessFlags := 2, nameIndex := 126, descriptorIndex := 68, attributes := #[] }] 49 2 #[] #[{ accessFlags := 25, nameIndex := 130, descriptorIndex := 54, attributes := #[] }, { accessFlags := 25, nameIndex := 133, descriptorIndex := 54, attributes := #[] }, { accessFlags := 25, nameIndex := 135, descriptorIndex := 54, attributes := #[] }, { accessFlags := 25, nameIndex := 137, descriptorIndex := 54, attributes := #[] }, { accessFlags := 25, nameIndex := 139, descriptorIndex := 54, attributes := #[] }, { accessFlags := 25, nameIndex := 141, descriptorIndex := 54, attributes := #[] }, { accessFlags := 25, nameIndex := 143, descriptorIndex := 54, attributes := #[] }, { accessFlags := 25, nameIndex := 144, descriptorIndex := 54, attributes := #[] }, { accessFlags := 25, nameIndex := 145, descriptorIndex := 54, attributes := #[] }, { accessFlags := 25, nameIndex := 146, descriptorIndex := 54, attributes := #[] }, { accessFlags := 25, nameIndex := 147, descriptorIndex := 54, attributes := #[] }, { accessFlags := 25, nameIndex := 148, descriptorIndex := 54, attributes := #[] }, { accessFlags := 25, nameIndex := 149, descriptorIndex := 54, attributes := #[] }, { accessFlags := 25, nameIndex := 150, descriptorIndex := 54, attributes := #[] }, { accessFlags := 25, nameIndex := 151, descriptorIndex := 54, attributes := #[] }, { accessFlags := 25, nameIndex := 152, descriptorIndex := 54, attributes := #[] }, { accessFlags := 25, nameIndex := 153, descriptorIndex := 54, attributes := #[] }, { accessFlags := 25, nameIndex := 154, descriptorIndex := 54, attributes := #[] }, { accessFlags := 25, nameIndex := 155, descriptorIndex := 54, attributes := #[] }, { accessFlags := 25, nameIndex := 156, descriptorIndex := 54, attributes := #[] }, { accessFlags := 25, nameIndex := 157, descriptorIndex := 54, attributes := #[] }, { accessFlags := 25, nameIndex := 158, descriptorIndex := 54, attributes := #[] }, { accessFlags := 25, nameIndex := 159, descriptorIndex := 54, attributes := #[] }, { accessFlags := 25, nameIndex := 160, descriptorIndex := 54, attributes := #[] }, { accessFlags := 18, nameIndex := 11, descriptorIndex := 12, attributes := #[] }, { accessFlags := 18, nameIndex := 15, descriptorIndex := 12, attributes := #[] }, { accessFlags := 18, nameIndex := 18, descriptorIndex := 12, attributes := #[] }, { accessFlags := 18, nameIndex := 21, descriptorIndex := 12, attributes := #[] }, { accessFlags := 18, nameIndex := 24, descriptorIndex := 25, attributes := #[] }, { accessFlags := 18, nameIndex := 28, descriptorIndex := 12, attributes := #[] }, { accessFlags := 18, nameIndex := 31, descriptorIndex := 12, attributes := #[] }, { accessFlags := 18, nameIndex := 34, descriptorIndex := 12, attributes := #[] }, { accessFlags := 18, nameIndex := 37, descriptorIndex := 12, attributes := #[] }, { accessFlags := 18, nameIndex := 40, descriptorIndex := 12, attributes := #[] }, { accessFlags := 18, nameIndex := 43, descriptorIndex := 12, attributes := #[] }, { accessFlags := 18, nameIndex := 46, descriptorIndex := 12, attributes := #[] }, { accessFlags := 2, nameIndex := 60, descriptorIndex := 61, attributes := #[] }, { accessFlags := 2, nameIndex := 64, descriptorIndex := 54, attributes := #[] }, { accessFlags := 2, nameIndex := 53, descriptorIndex := 54, attributes := #[] }, { accessFlags := 2, nameIndex := 57, descriptorIndex := 54, attributes := #[] }])
  fields := #[{ name := "S_FREE", type := .int, accessFlags := 25, slot := 0, constantValue := 0 }, { name := "S_BUILDING", type := .int, accessFlags := 25, slot := 1, constantValue := 0 }, { name := "S_RUNNING", type := .int, accessFlags := 25, slot := 2, constantValue := 0 }, { name := "S_COMPENSATING", type := .int, accessFlags := 25, slot := 3, constantValue := 0 }, { name := "S_COMMITTED", type := .int, accessFlags := 25, slot := 4, constantValue := 0 }, { name := "S_ABORTED", type := .int, accessFlags := 25, slot := 5, constantValue := 0 }, { name := "ST_PENDING", type := .int, accessFlags := 25, slot := 6, constantValue := 0 }, { name := "ST_SENT", type := .int, accessFlags := 25, slot := 7, constantValue := 0 }, { name := "ST_DONE", type := .int, accessFlags := 25, slot := 8, constantValue := 0 }, { name := "ST_FAILED", type := .int, accessFlags := 25, slot := 9, constantValue := 0 }, { name := "ST_RELEASING", type := .int, accessFlags := 25, slot := 10, constantValue := 0 }, { name := "ST_COMPENSATED", type := .int, accessFlags := 25, slot := 11, constantValue := 0 }, { name := "E_NONE", type := .int, accessFlags := 25, slot := 12, constantValue := 0 }, { name := "E_RESERVED", type := .int, accessFlags := 25, slot := 13, constantValue := 0 }, { name := "E_REFUSED", type := .int, accessFlags := 25, slot := 14, constantValue := 0 }, { name := "E_RELEASED", type := .int, accessFlags := 25, slot := 15, constantValue := 0 }, { name := "E_CANCELLED", type := .int, accessFlags := 25, slot := 16, constantValue := 0 }, { name := "K_RESERVE", type := .int, accessFlags := 25, slot := 17, constantValue := 0 }, { name := "K_RELEASE", type := .int, accessFlags := 25, slot := 18, constantValue := 0 }, { name := "REPLY_OK", type := .int, accessFlags := 25, slot := 19, constantValue := 0 }, { name := "REPLY_REFUSED", type := .int, accessFlags := 25, slot := 20, constantValue := 0 }, { name := "R_STALE", type := .int, accessFlags := 25, slot := 21, constantValue := 0 }, { name := "T_RESENT", type := .int, accessFlags := 25, slot := 22, constantValue := 0 }, { name := "T_GAVE_UP", type := .int, accessFlags := 25, slot := 23, constantValue := 0 }, { name := "total", type := (.array .int), accessFlags := 18, slot := 0, constantValue := 0 }, { name := "status", type := (.array .int), accessFlags := 18, slot := 1, constantValue := 0 }, { name := "count", type := (.array .int), accessFlags := 18, slot := 2, constantValue := 0 }, { name := "retries", type := (.array .int), accessFlags := 18, slot := 3, constantValue := 0 }, { name := "slotFull", type := (.array .boolean), accessFlags := 18, slot := 4, constantValue := 0 }, { name := "slotStep", type := (.array .int), accessFlags := 18, slot := 5, constantValue := 0 }, { name := "slotKind", type := (.array .int), accessFlags := 18, slot := 6, constantValue := 0 }, { name := "slotReply", type := (.array .int), accessFlags := 18, slot := 7, constantValue := 0 }, { name := "part", type := (.array .int), accessFlags := 18, slot := 8, constantValue := 0 }, { name := "amt", type := (.array .int), accessFlags := 18, slot := 9, constantValue := 0 }, { name := "stState", type := (.array .int), accessFlags := 18, slot := 10, constantValue := 0 }, { name := "entry", type := (.array .int), accessFlags := 18, slot := 11, constantValue := 0 }, { name := "up", type := .boolean, accessFlags := 2, slot := 12, constantValue := 0 }, { name := "begun", type := .int, accessFlags := 2, slot := 13, constantValue := 0 }, { name := "maxRetries", type := .int, accessFlags := 2, slot := 14, constantValue := 0 }, { name := "sagaLimit", type := .int, accessFlags := 2, slot := 15, constantValue := 0 }]
  methods := #[k2m0, k2m1, k2m2, k2m3, k2m4, k2m5, k2m6, k2m7, k2m8, k2m9, k2m10, k2m11, k2m12, k2m13, k2m14, k2m15, k2m16, k2m17, k2m18, k2m19, k2m20, k2m21, k2m22, k2m23, k2m24, k2m25, k2m26, k2m27, k2m28, k2m29, k2m30, k2m31, k2m32, k2m33, k2m34]
  instanceTypes := #[(.array .int), (.array .int), (.array .int), (.array .int), (.array .boolean), (.array .int), (.array .int), (.array .int), (.array .int), (.array .int), (.array .int), (.array .int), .boolean, .int, .int, .int]
  staticTypes := #[.int, .int, .int, .int, .int, .int, .int, .int, .int, .int, .int, .int, .int, .int, .int, .int, .int, .int, .int, .int, .int, .int, .int, .int]
  resolved := Array.replicate 185 none
  statics := none }

def pool3 : Array CpInfo := pool [(1, u "java/lang/Cloneable"), (0, .class_ 1), (0, u "java/lang/Object"), (0, .class_ 3)] 3

/-- java/lang/Cloneable -/
def k3 : Class := { plain "java/lang/Cloneable" (some 0) with
  accessFlags := 1537
  interfaces := #[]
  cf := some (fileOf pool3 2 #[] #[] 1537 4 #[] #[])
  fields := #[]
  methods := #[]
  instanceTypes := #[]
  staticTypes := #[]
  resolved := Array.replicate 8 none
  statics := none }

def pool4 : Array CpInfo := pool [(1, u "java/io/Serializable"), (0, .class_ 1), (0, u "java/lang/Object"), (0, .class_ 3)] 3

/-- java/io/Serializable -/
def k4 : Class := { plain "java/io/Serializable" (some 0) with
  accessFlags := 1537
  interfaces := #[]
  cf := some (fileOf pool4 2 #[] #[] 1537 4 #[] #[])
  fields := #[]
  methods := #[]
  instanceTypes := #[]
  staticTypes := #[]
  resolved := Array.replicate 8 none
  statics := none }

/-- the primitive boolean -/
def k5 : Class := { plain "boolean" none with kind := .primitive 'Z', accessFlags := 0x411 }
/-- [Z -/
def k6 : Class := { plain "[Z" (some 0) with kind := .array 5 .boolean, interfaces := #[3, 4], accessFlags := 1041 }

/-- the primitive byte -/
def k7 : Class := { plain "byte" none with kind := .primitive 'B', accessFlags := 0x411 }
/-- [B -/
def k8 : Class := { plain "[B" (some 0) with kind := .array 7 .byte, interfaces := #[3, 4], accessFlags := 1041 }

/-- the primitive int -/
def k9 : Class := { plain "int" none with kind := .primitive 'I', accessFlags := 0x411 }
/-- [I -/
def k10 : Class := { plain "[I" (some 0) with kind := .array 9 .int, interfaces := #[3, 4], accessFlags := 1041 }

def heap : Heap := #[{ cls := 10, slots := #[.int 1, .int 2, .int 3], vm := .none }]
def classes : Array Class := #[k0, k1, k2, k3, k4, k5, k6, k7, k8, k9, k10]
def interned : List (Array UInt16 × Addr) := []
def slotsUsed : Nat := 3
def theMethod : MethodId := ⟨1, 6⟩
def args0 : Array Value := #[.ref 0]
def aboutOver (below : List Frame) : State where
  vm := { classes := classes, interned := interned.toArray }
  heap := heap
  slotsUsed := slotsUsed
  threads := #[{ frames := .invoking theMethod args0 :: below }]
def below0 : List Frame := [.native { method := ⟨0, 0⟩, args := #[] }]
def about1 : State := aboutOver below0
def p0 : Program := .bare "" "" ""
def e0 : Env := launch0.env 0 0 0
theorem w_frames : about1.frames = Frame.invoking theMethod args0 :: below0 := rfl
set_option maxRecDepth 65536 in
theorem w_args : argsFit about1.vm theMethod args0 = true := by decide +kernel
set_option maxRecDepth 65536 in
theorem w_heap : heapFits about1 = true := by decide +kernel
set_option maxRecDepth 65536 in
theorem w_runnable : about1.curStatus? = some .runnable := by decide +kernel
set_option maxRecDepth 65536 in
theorem w_alone : about1.alone = true := by decide +kernel
set_option maxRecDepth 65536 in
theorem w_named : about1.methodNamed? x = some theMethod := by decide +kernel
set_option maxRecDepth 65536 in
theorem w_hears : about1.hears theMethod below0 = true := by decide +kernel
set_option maxRecDepth 65536 in
theorem w_ripe : about1.ripe theMethod args0 below0 = true := by decide +kernel
theorem w_running : about1.status = .running := rfl
set_option maxRecDepth 65536 in
theorem w_room : about1.hasRoom e0.platform room_1 = true :=
  launch0.hasRoom_least _ room_1 (by decide +kernel) (by decide +kernel) (by decide +kernel) (by decide +kernel) (by decide +kernel) (by decide +kernel)
theorem allAtoms_all (ts : List Jvm.Cond) (a : Array Jvm.Value) (st : Jvm.State) : (allAtoms ts).before a st = ts.all (fun c => c.before a st) := by
  induction ts with
  | nil => rfl
  | cons c t ih =>
    show (Jvm.Cond.and c (allAtoms t)).before a st = _
    rw [Jvm.Cond.before_and, ih, List.all_cons]
def words1 : List Jvm.Cond := Jvm.Cond.code x code maxLocals ret :: tables_1
/-- a 'code' word, met by the world's own term for the bytes: nothing is compared byte by byte -/
theorem code_word {y : MethodName} {bytes : ByteArray} {mx : Nat} {rt : Option FieldType} {a : Array Value} {s : State} {m : MethodId} {meth : Method} {c : Code} (h1 : s.methodNamed? y = some m) (h2 : s.vm.method? m = some meth) (h3 : meth.code = some c) (h4 : c.code = bytes)
    (h5 : (c.maxLocals == mx && c.exceptionTable.isEmpty && decide (c.maxStack ≤ mostOperands) && decide (meth.sig.returnType = rt) && !meth.locks && decide (parseMethodDescriptor y.desc = some meth.sig)) = true) : (Jvm.Cond.code y bytes mx rt).before a s = true := by
  simp only [Bool.and_eq_true, beq_iff_eq, Bool.not_eq_true', decide_eq_true_eq] at h5
  obtain ⟨⟨⟨⟨⟨g1, g2⟩, g3⟩, g4⟩, g5⟩, g6⟩ := h5
  simp [Cond.before, Cond.holds, Cond.value, h1, h2, h3, h4, g1, g2, g3, g4, g5, g6]
def isCode : Jvm.Cond → Bool
  | .code _ _ _ _ => true
  | _ => false
theorem all_split {L : List Jvm.Cond} {P : Jvm.Cond → Bool} (h1 : L.all (fun c => isCode c || P c) = true) (h2 : ∀ c ∈ L.filter isCode, P c = true) : L.all P = true := by
  refine List.all_eq_true.mpr fun c hc => ?_
  have h := List.all_eq_true.mp h1 c hc
  rcases Bool.eq_false_or_eq_true (isCode c) with hi | hi
  · exact h2 c (List.mem_filter.mpr ⟨hc, hi⟩)
  · simpa [hi] using h
set_option maxRecDepth 65536 in
theorem w_c0 : (Jvm.Cond.code x code maxLocals ret).before args0 about1 = true := code_word (m := ⟨1, 6⟩) (meth := k1m6) (c := k1c6) (by decide +kernel) rfl rfl rfl (by decide +kernel)
set_option maxRecDepth 65536 in
theorem w_c1 : (Jvm.Cond.code ({ cls := "SagaCoordinatorOwnLaw", name := "cell", desc := "([II)I" } : Jvm.MethodName) method_2_code (2 : Nat) (Option.some Jvm.ClassFile.FieldType.int)).before args0 about1 = true := code_word (m := ⟨1, 1⟩) (meth := k1m1) (c := k1c1) (by decide +kernel) rfl rfl rfl (by decide +kernel)
set_option maxRecDepth 65536 in
theorem w_c2 : (Jvm.Cond.code ({ cls := "SagaCoordinatorOwnLaw", name := "clamp", desc := "(III)I" } : Jvm.MethodName) method_3_code (3 : Nat) (Option.some Jvm.ClassFile.FieldType.int)).before args0 about1 = true := code_word (m := ⟨1, 2⟩) (meth := k1m2) (c := k1c2) (by decide +kernel) rfl rfl rfl (by decide +kernel)
set_option maxRecDepth 65536 in
theorem w_c3 : (Jvm.Cond.code ({ cls := "SagaCoordinator", name := "<init>", desc := "(III)V" } : Jvm.MethodName) prog_1_method_1_code (6 : Nat) (Option.none : Option Jvm.ClassFile.FieldType)).before args0 about1 = true := code_word (m := ⟨2, 0⟩) (meth := k2m0) (c := k2c0) (by decide +kernel) rfl rfl rfl (by decide +kernel)
set_option maxRecDepth 65536 in
theorem w_c4 : (Jvm.Cond.code ({ cls := "java/lang/Object", name := "<init>", desc := "()V" } : Jvm.MethodName) object_method_1_code (1 : Nat) (Option.none : Option Jvm.ClassFile.FieldType)).before args0 about1 = true := code_word (m := ⟨0, 0⟩) (meth := k0m0) (c := k0c0) (by decide +kernel) rfl rfl rfl (by decide +kernel)
set_option maxRecDepth 65536 in
theorem w_c5 : (Jvm.Cond.code ({ cls := "SagaCoordinator", name := "clamp", desc := "(III)I" } : Jvm.MethodName) prog_1_method_18_code (4 : Nat) (Option.some Jvm.ClassFile.FieldType.int)).before args0 about1 = true := code_word (m := ⟨2, 15⟩) (meth := k2m15) (c := k2c15) (by decide +kernel) rfl rfl rfl (by decide +kernel)
set_option maxRecDepth 65536 in
theorem w_c6 : (Jvm.Cond.code ({ cls := "SagaCoordinator", name := "getStepCount", desc := "(I)I" } : Jvm.MethodName) prog_1_method_12_code (2 : Nat) (Option.some Jvm.ClassFile.FieldType.int)).before args0 about1 = true := code_word (m := ⟨2, 11⟩) (meth := k2m11) (c := k2c11) (by decide +kernel) rfl rfl rfl (by decide +kernel)
set_option maxRecDepth 65536 in
theorem w_c7 : (Jvm.Cond.code ({ cls := "SagaCoordinator", name := "isValidSaga", desc := "(I)Z" } : Jvm.MethodName) prog_1_method_19_code (2 : Nat) (Option.some Jvm.ClassFile.FieldType.boolean)).before args0 about1 = true := code_word (m := ⟨2, 16⟩) (meth := k2m16) (c := k2c16) (by decide +kernel) rfl rfl rfl (by decide +kernel)
set_option maxRecDepth 65536 in
theorem w_c8 : (Jvm.Cond.code ({ cls := "SagaCoordinator", name := "getTotal", desc := "(I)I" } : Jvm.MethodName) prog_1_method_15_code (2 : Nat) (Option.some Jvm.ClassFile.FieldType.int)).before args0 about1 = true := code_word (m := ⟨2, 14⟩) (meth := k2m14) (c := k2c14) (by decide +kernel) rfl rfl rfl (by decide +kernel)
set_option maxRecDepth 65536 in
theorem w_c9 : (Jvm.Cond.code ({ cls := "SagaCoordinator", name := "getSagaStatus", desc := "(I)I" } : Jvm.MethodName) prog_1_method_11_code (2 : Nat) (Option.some Jvm.ClassFile.FieldType.int)).before args0 about1 = true := code_word (m := ⟨2, 10⟩) (meth := k2m10) (c := k2c10) (by decide +kernel) rfl rfl rfl (by decide +kernel)
set_option maxRecDepth 65536 in
theorem w_c10 : (Jvm.Cond.code ({ cls := "SagaCoordinator", name := "getEntry", desc := "(II)I" } : Jvm.MethodName) prog_1_method_14_code (3 : Nat) (Option.some Jvm.ClassFile.FieldType.int)).before args0 about1 = true := code_word (m := ⟨2, 13⟩) (meth := k2m13) (c := k2c13) (by decide +kernel) rfl rfl rfl (by decide +kernel)
set_option maxRecDepth 65536 in
theorem w_c11 : (Jvm.Cond.code ({ cls := "SagaCoordinator", name := "isValidStep", desc := "(II)Z" } : Jvm.MethodName) prog_1_method_20_code (3 : Nat) (Option.some Jvm.ClassFile.FieldType.boolean)).before args0 about1 = true := code_word (m := ⟨2, 17⟩) (meth := k2m17) (c := k2c17) (by decide +kernel) rfl rfl rfl (by decide +kernel)
set_option maxRecDepth 65536 in
theorem w_c12 : (Jvm.Cond.code ({ cls := "SagaCoordinator", name := "startSaga", desc := "(I)Z" } : Jvm.MethodName) prog_1_method_4_code (2 : Nat) (Option.some Jvm.ClassFile.FieldType.boolean)).before args0 about1 = true := code_word (m := ⟨2, 3⟩) (meth := k2m3) (c := k2c3) (by decide +kernel) rfl rfl rfl (by decide +kernel)
set_option maxRecDepth 65536 in
theorem w_c13 : (Jvm.Cond.code ({ cls := "SagaCoordinator", name := "beginSaga", desc := "()I" } : Jvm.MethodName) prog_1_method_2_code (2 : Nat) (Option.some Jvm.ClassFile.FieldType.int)).before args0 about1 = true := code_word (m := ⟨2, 1⟩) (meth := k2m1) (c := k2c1) (by decide +kernel) rfl rfl rfl (by decide +kernel)
set_option maxRecDepth 65536 in
theorem w_c14 : (Jvm.Cond.code ({ cls := "SagaCoordinator", name := "clearSlot", desc := "(I)V" } : Jvm.MethodName) prog_1_method_23_code (2 : Nat) (Option.none : Option Jvm.ClassFile.FieldType)).before args0 about1 = true := code_word (m := ⟨2, 20⟩) (meth := k2m20) (c := k2c20) (by decide +kernel) rfl rfl rfl (by decide +kernel)
set_option maxRecDepth 65536 in
theorem w_c15 : (Jvm.Cond.code ({ cls := "SagaCoordinatorOwnLaw", name := "part", desc := "(III)I" } : Jvm.MethodName) method_5_code (3 : Nat) (Option.some Jvm.ClassFile.FieldType.int)).before args0 about1 = true := code_word (m := ⟨1, 4⟩) (meth := k1m4) (c := k1c4) (by decide +kernel) rfl rfl rfl (by decide +kernel)
set_option maxRecDepth 65536 in
theorem w_c16 : (Jvm.Cond.code ({ cls := "SagaCoordinatorOwnLaw", name := "mix", desc := "(III)I" } : Jvm.MethodName) method_4_code (4 : Nat) (Option.some Jvm.ClassFile.FieldType.int)).before args0 about1 = true := code_word (m := ⟨1, 3⟩) (meth := k1m3) (c := k1c3) (by decide +kernel) rfl rfl rfl (by decide +kernel)
set_option maxRecDepth 65536 in
theorem w_c17 : (Jvm.Cond.code ({ cls := "SagaCoordinatorOwnLaw", name := "amt", desc := "(III)I" } : Jvm.MethodName) method_6_code (3 : Nat) (Option.some Jvm.ClassFile.FieldType.int)).before args0 about1 = true := code_word (m := ⟨1, 5⟩) (meth := k1m5) (c := k1c5) (by decide +kernel) rfl rfl rfl (by decide +kernel)
set_option maxRecDepth 65536 in
theorem w_c18 : (Jvm.Cond.code ({ cls := "SagaCoordinator", name := "addStep", desc := "(III)I" } : Jvm.MethodName) prog_1_method_3_code (4 : Nat) (Option.some Jvm.ClassFile.FieldType.int)).before args0 about1 = true := code_word (m := ⟨2, 2⟩) (meth := k2m2) (c := k2c2) (by decide +kernel) rfl rfl rfl (by decide +kernel)
set_option maxRecDepth 65536 in
theorem w_c19 : (Jvm.Cond.code ({ cls := "SagaCoordinator", name := "appendStep", desc := "(III)I" } : Jvm.MethodName) prog_1_method_22_code (6 : Nat) (Option.some Jvm.ClassFile.FieldType.int)).before args0 about1 = true := code_word (m := ⟨2, 19⟩) (meth := k2m19) (c := k2c19) (by decide +kernel) rfl rfl rfl (by decide +kernel)
set_option maxRecDepth 65536 in
theorem w_c20 : (Jvm.Cond.code ({ cls := "SagaCoordinator", name := "key", desc := "(II)I" } : Jvm.MethodName) prog_1_method_21_code (3 : Nat) (Option.some Jvm.ClassFile.FieldType.int)).before args0 about1 = true := code_word (m := ⟨2, 18⟩) (meth := k2m18) (c := k2c18) (by decide +kernel) rfl rfl rfl (by decide +kernel)
set_option maxRecDepth 65536 in
theorem w_c21 : (Jvm.Cond.code ({ cls := "SagaCoordinator", name := "recover", desc := "()Z" } : Jvm.MethodName) prog_1_method_10_code (2 : Nat) (Option.some Jvm.ClassFile.FieldType.boolean)).before args0 about1 = true := code_word (m := ⟨2, 9⟩) (meth := k2m9) (c := k2c9) (by decide +kernel) rfl rfl rfl (by decide +kernel)
set_option maxRecDepth 65536 in
theorem w_c22 : (Jvm.Cond.code ({ cls := "SagaCoordinator", name := "timeout", desc := "(I)I" } : Jvm.MethodName) prog_1_method_8_code (3 : Nat) (Option.some Jvm.ClassFile.FieldType.int)).before args0 about1 = true := code_word (m := ⟨2, 7⟩) (meth := k2m7) (c := k2c7) (by decide +kernel) rfl rfl rfl (by decide +kernel)
set_option maxRecDepth 65536 in
theorem w_c23 : (Jvm.Cond.code ({ cls := "SagaCoordinator", name := "outstandingStep", desc := "(I)I" } : Jvm.MethodName) prog_1_method_25_code (5 : Nat) (Option.some Jvm.ClassFile.FieldType.int)).before args0 about1 = true := code_word (m := ⟨2, 22⟩) (meth := k2m22) (c := k2c22) (by decide +kernel) rfl rfl rfl (by decide +kernel)
set_option maxRecDepth 65536 in
theorem w_c24 : (Jvm.Cond.code ({ cls := "SagaCoordinator", name := "crash", desc := "()Z" } : Jvm.MethodName) prog_1_method_9_code (2 : Nat) (Option.some Jvm.ClassFile.FieldType.boolean)).before args0 about1 = true := code_word (m := ⟨2, 8⟩) (meth := k2m8) (c := k2c8) (by decide +kernel) rfl rfl rfl (by decide +kernel)
set_option maxRecDepth 65536 in
theorem w_c25 : (Jvm.Cond.code ({ cls := "SagaCoordinator", name := "deliver", desc := "(I)I" } : Jvm.MethodName) prog_1_method_5_code (6 : Nat) (Option.some Jvm.ClassFile.FieldType.int)).before args0 about1 = true := code_word (m := ⟨2, 4⟩) (meth := k2m4) (c := k2c4) (by decide +kernel) rfl rfl rfl (by decide +kernel)
set_option maxRecDepth 65536 in
theorem w_c26 : (Jvm.Cond.code ({ cls := "SagaCoordinator", name := "receive", desc := "(I)I" } : Jvm.MethodName) prog_1_method_7_code (4 : Nat) (Option.some Jvm.ClassFile.FieldType.int)).before args0 about1 = true := code_word (m := ⟨2, 6⟩) (meth := k2m6) (c := k2c6) (by decide +kernel) rfl rfl rfl (by decide +kernel)
set_option maxRecDepth 65536 in
theorem w_c27 : (Jvm.Cond.code ({ cls := "SagaCoordinator", name := "redeliver", desc := "(III)I" } : Jvm.MethodName) prog_1_method_6_code (4 : Nat) (Option.some Jvm.ClassFile.FieldType.int)).before args0 about1 = true := code_word (m := ⟨2, 5⟩) (meth := k2m5) (c := k2c5) (by decide +kernel) rfl rfl rfl (by decide +kernel)
set_option maxRecDepth 65536 in
theorem w_c28 : (Jvm.Cond.code ({ cls := "SagaCoordinator", name := "wasSent", desc := "(III)Z" } : Jvm.MethodName) prog_1_method_27_code (5 : Nat) (Option.some Jvm.ClassFile.FieldType.boolean)).before args0 about1 = true := code_word (m := ⟨2, 24⟩) (meth := k2m24) (c := k2c24) (by decide +kernel) rfl rfl rfl (by decide +kernel)
set_option maxRecDepth 65536 in
theorem w_c29 : (Jvm.Cond.code ({ cls := "SagaCoordinator", name := "process", desc := "(III)I" } : Jvm.MethodName) prog_1_method_29_code (5 : Nat) (Option.some Jvm.ClassFile.FieldType.int)).before args0 about1 = true := code_word (m := ⟨2, 26⟩) (meth := k2m26) (c := k2c26) (by decide +kernel) rfl rfl rfl (by decide +kernel)
set_option maxRecDepth 65536 in
theorem w_c30 : (Jvm.Cond.code ({ cls := "SagaCoordinator", name := "applyReserve", desc := "(I)V" } : Jvm.MethodName) prog_1_method_30_code (3 : Nat) (Option.none : Option Jvm.ClassFile.FieldType)).before args0 about1 = true := code_word (m := ⟨2, 27⟩) (meth := k2m27) (c := k2c27) (by decide +kernel) rfl rfl rfl (by decide +kernel)
set_option maxRecDepth 65536 in
theorem w_c31 : (Jvm.Cond.code ({ cls := "SagaCoordinator", name := "outstandingKind", desc := "(I)I" } : Jvm.MethodName) prog_1_method_26_code (2 : Nat) (Option.some Jvm.ClassFile.FieldType.int)).before args0 about1 = true := code_word (m := ⟨2, 23⟩) (meth := k2m23) (c := k2c23) (by decide +kernel) rfl rfl rfl (by decide +kernel)
set_option maxRecDepth 65536 in
theorem w_c32 : (Jvm.Cond.code ({ cls := "SagaCoordinator", name := "replyFor", desc := "(II)I" } : Jvm.MethodName) prog_1_method_28_code (3 : Nat) (Option.some Jvm.ClassFile.FieldType.int)).before args0 about1 = true := code_word (m := ⟨2, 25⟩) (meth := k2m25) (c := k2c25) (by decide +kernel) rfl rfl rfl (by decide +kernel)
set_option maxRecDepth 65536 in
theorem w_c33 : (Jvm.Cond.code ({ cls := "SagaCoordinator", name := "setSlot", desc := "(IIII)V" } : Jvm.MethodName) prog_1_method_24_code (5 : Nat) (Option.none : Option Jvm.ClassFile.FieldType)).before args0 about1 = true := code_word (m := ⟨2, 21⟩) (meth := k2m21) (c := k2c21) (by decide +kernel) rfl rfl rfl (by decide +kernel)
set_option maxRecDepth 65536 in
theorem w_c34 : (Jvm.Cond.code ({ cls := "SagaCoordinator", name := "onReserveRefused", desc := "(II)V" } : Jvm.MethodName) prog_1_method_33_code (3 : Nat) (Option.none : Option Jvm.ClassFile.FieldType)).before args0 about1 = true := code_word (m := ⟨2, 30⟩) (meth := k2m30) (c := k2c30) (by decide +kernel) rfl rfl rfl (by decide +kernel)
set_option maxRecDepth 65536 in
theorem w_c35 : (Jvm.Cond.code ({ cls := "SagaCoordinator", name := "compensate", desc := "(I)V" } : Jvm.MethodName) prog_1_method_37_code (3 : Nat) (Option.none : Option Jvm.ClassFile.FieldType)).before args0 about1 = true := code_word (m := ⟨2, 34⟩) (meth := k2m34) (c := k2c34) (by decide +kernel) rfl rfl rfl (by decide +kernel)
set_option maxRecDepth 65536 in
theorem w_c36 : (Jvm.Cond.code ({ cls := "SagaCoordinator", name := "highestDone", desc := "(I)I" } : Jvm.MethodName) prog_1_method_36_code (4 : Nat) (Option.some Jvm.ClassFile.FieldType.int)).before args0 about1 = true := code_word (m := ⟨2, 33⟩) (meth := k2m33) (c := k2c33) (by decide +kernel) rfl rfl rfl (by decide +kernel)
set_option maxRecDepth 65536 in
theorem w_c37 : (Jvm.Cond.code ({ cls := "SagaCoordinator", name := "giveUp", desc := "(II)V" } : Jvm.MethodName) prog_1_method_35_code (3 : Nat) (Option.none : Option Jvm.ClassFile.FieldType)).before args0 about1 = true := code_word (m := ⟨2, 32⟩) (meth := k2m32) (c := k2c32) (by decide +kernel) rfl rfl rfl (by decide +kernel)
set_option maxRecDepth 65536 in
theorem w_c38 : (Jvm.Cond.code ({ cls := "SagaCoordinator", name := "applyRelease", desc := "(I)V" } : Jvm.MethodName) prog_1_method_31_code (3 : Nat) (Option.none : Option Jvm.ClassFile.FieldType)).before args0 about1 = true := code_word (m := ⟨2, 28⟩) (meth := k2m28) (c := k2c28) (by decide +kernel) rfl rfl rfl (by decide +kernel)
set_option maxRecDepth 65536 in
theorem w_c39 : (Jvm.Cond.code ({ cls := "SagaCoordinator", name := "onReleaseOk", desc := "(II)V" } : Jvm.MethodName) prog_1_method_34_code (3 : Nat) (Option.none : Option Jvm.ClassFile.FieldType)).before args0 about1 = true := code_word (m := ⟨2, 31⟩) (meth := k2m31) (c := k2c31) (by decide +kernel) rfl rfl rfl (by decide +kernel)
set_option maxRecDepth 65536 in
theorem w_c40 : (Jvm.Cond.code ({ cls := "SagaCoordinator", name := "onReserveOk", desc := "(II)V" } : Jvm.MethodName) prog_1_method_32_code (3 : Nat) (Option.none : Option Jvm.ClassFile.FieldType)).before args0 about1 = true := code_word (m := ⟨2, 29⟩) (meth := k2m29) (c := k2c29) (by decide +kernel) rfl rfl rfl (by decide +kernel)
set_option maxRecDepth 65536 in
theorem w_c41 : (Jvm.Cond.code ({ cls := "SagaCoordinator", name := "getStepState", desc := "(II)I" } : Jvm.MethodName) prog_1_method_13_code (3 : Nat) (Option.some Jvm.ClassFile.FieldType.int)).before args0 about1 = true := code_word (m := ⟨2, 12⟩) (meth := k2m12) (c := k2c12) (by decide +kernel) rfl rfl rfl (by decide +kernel)
def codes1 : List Jvm.Cond := [Jvm.Cond.code x code maxLocals ret, Jvm.Cond.code ({ cls := "SagaCoordinatorOwnLaw", name := "cell", desc := "([II)I" } : Jvm.MethodName) method_2_code (2 : Nat) (Option.some Jvm.ClassFile.FieldType.int), Jvm.Cond.code ({ cls := "SagaCoordinatorOwnLaw", name := "clamp", desc := "(III)I" } : Jvm.MethodName) method_3_code (3 : Nat) (Option.some Jvm.ClassFile.FieldType.int), Jvm.Cond.code ({ cls := "SagaCoordinator", name := "<init>", desc := "(III)V" } : Jvm.MethodName) prog_1_method_1_code (6 : Nat) (Option.none : Option Jvm.ClassFile.FieldType), Jvm.Cond.code ({ cls := "java/lang/Object", name := "<init>", desc := "()V" } : Jvm.MethodName) object_method_1_code (1 : Nat) (Option.none : Option Jvm.ClassFile.FieldType), Jvm.Cond.code ({ cls := "SagaCoordinator", name := "clamp", desc := "(III)I" } : Jvm.MethodName) prog_1_method_18_code (4 : Nat) (Option.some Jvm.ClassFile.FieldType.int), Jvm.Cond.code ({ cls := "SagaCoordinator", name := "getStepCount", desc := "(I)I" } : Jvm.MethodName) prog_1_method_12_code (2 : Nat) (Option.some Jvm.ClassFile.FieldType.int), Jvm.Cond.code ({ cls := "SagaCoordinator", name := "isValidSaga", desc := "(I)Z" } : Jvm.MethodName) prog_1_method_19_code (2 : Nat) (Option.some Jvm.ClassFile.FieldType.boolean), Jvm.Cond.code ({ cls := "SagaCoordinator", name := "getTotal", desc := "(I)I" } : Jvm.MethodName) prog_1_method_15_code (2 : Nat) (Option.some Jvm.ClassFile.FieldType.int), Jvm.Cond.code ({ cls := "SagaCoordinator", name := "getSagaStatus", desc := "(I)I" } : Jvm.MethodName) prog_1_method_11_code (2 : Nat) (Option.some Jvm.ClassFile.FieldType.int), Jvm.Cond.code ({ cls := "SagaCoordinator", name := "getEntry", desc := "(II)I" } : Jvm.MethodName) prog_1_method_14_code (3 : Nat) (Option.some Jvm.ClassFile.FieldType.int), Jvm.Cond.code ({ cls := "SagaCoordinator", name := "isValidStep", desc := "(II)Z" } : Jvm.MethodName) prog_1_method_20_code (3 : Nat) (Option.some Jvm.ClassFile.FieldType.boolean), Jvm.Cond.code ({ cls := "SagaCoordinator", name := "startSaga", desc := "(I)Z" } : Jvm.MethodName) prog_1_method_4_code (2 : Nat) (Option.some Jvm.ClassFile.FieldType.boolean), Jvm.Cond.code ({ cls := "SagaCoordinator", name := "beginSaga", desc := "()I" } : Jvm.MethodName) prog_1_method_2_code (2 : Nat) (Option.some Jvm.ClassFile.FieldType.int), Jvm.Cond.code ({ cls := "SagaCoordinator", name := "clearSlot", desc := "(I)V" } : Jvm.MethodName) prog_1_method_23_code (2 : Nat) (Option.none : Option Jvm.ClassFile.FieldType), Jvm.Cond.code ({ cls := "SagaCoordinatorOwnLaw", name := "part", desc := "(III)I" } : Jvm.MethodName) method_5_code (3 : Nat) (Option.some Jvm.ClassFile.FieldType.int), Jvm.Cond.code ({ cls := "SagaCoordinatorOwnLaw", name := "mix", desc := "(III)I" } : Jvm.MethodName) method_4_code (4 : Nat) (Option.some Jvm.ClassFile.FieldType.int), Jvm.Cond.code ({ cls := "SagaCoordinatorOwnLaw", name := "amt", desc := "(III)I" } : Jvm.MethodName) method_6_code (3 : Nat) (Option.some Jvm.ClassFile.FieldType.int), Jvm.Cond.code ({ cls := "SagaCoordinator", name := "addStep", desc := "(III)I" } : Jvm.MethodName) prog_1_method_3_code (4 : Nat) (Option.some Jvm.ClassFile.FieldType.int), Jvm.Cond.code ({ cls := "SagaCoordinator", name := "appendStep", desc := "(III)I" } : Jvm.MethodName) prog_1_method_22_code (6 : Nat) (Option.some Jvm.ClassFile.FieldType.int), Jvm.Cond.code ({ cls := "SagaCoordinator", name := "key", desc := "(II)I" } : Jvm.MethodName) prog_1_method_21_code (3 : Nat) (Option.some Jvm.ClassFile.FieldType.int), Jvm.Cond.code ({ cls := "SagaCoordinator", name := "recover", desc := "()Z" } : Jvm.MethodName) prog_1_method_10_code (2 : Nat) (Option.some Jvm.ClassFile.FieldType.boolean), Jvm.Cond.code ({ cls := "SagaCoordinator", name := "timeout", desc := "(I)I" } : Jvm.MethodName) prog_1_method_8_code (3 : Nat) (Option.some Jvm.ClassFile.FieldType.int), Jvm.Cond.code ({ cls := "SagaCoordinator", name := "outstandingStep", desc := "(I)I" } : Jvm.MethodName) prog_1_method_25_code (5 : Nat) (Option.some Jvm.ClassFile.FieldType.int), Jvm.Cond.code ({ cls := "SagaCoordinator", name := "crash", desc := "()Z" } : Jvm.MethodName) prog_1_method_9_code (2 : Nat) (Option.some Jvm.ClassFile.FieldType.boolean), Jvm.Cond.code ({ cls := "SagaCoordinator", name := "deliver", desc := "(I)I" } : Jvm.MethodName) prog_1_method_5_code (6 : Nat) (Option.some Jvm.ClassFile.FieldType.int), Jvm.Cond.code ({ cls := "SagaCoordinator", name := "receive", desc := "(I)I" } : Jvm.MethodName) prog_1_method_7_code (4 : Nat) (Option.some Jvm.ClassFile.FieldType.int), Jvm.Cond.code ({ cls := "SagaCoordinator", name := "redeliver", desc := "(III)I" } : Jvm.MethodName) prog_1_method_6_code (4 : Nat) (Option.some Jvm.ClassFile.FieldType.int), Jvm.Cond.code ({ cls := "SagaCoordinator", name := "wasSent", desc := "(III)Z" } : Jvm.MethodName) prog_1_method_27_code (5 : Nat) (Option.some Jvm.ClassFile.FieldType.boolean), Jvm.Cond.code ({ cls := "SagaCoordinator", name := "process", desc := "(III)I" } : Jvm.MethodName) prog_1_method_29_code (5 : Nat) (Option.some Jvm.ClassFile.FieldType.int), Jvm.Cond.code ({ cls := "SagaCoordinator", name := "applyReserve", desc := "(I)V" } : Jvm.MethodName) prog_1_method_30_code (3 : Nat) (Option.none : Option Jvm.ClassFile.FieldType), Jvm.Cond.code ({ cls := "SagaCoordinator", name := "outstandingKind", desc := "(I)I" } : Jvm.MethodName) prog_1_method_26_code (2 : Nat) (Option.some Jvm.ClassFile.FieldType.int), Jvm.Cond.code ({ cls := "SagaCoordinator", name := "replyFor", desc := "(II)I" } : Jvm.MethodName) prog_1_method_28_code (3 : Nat) (Option.some Jvm.ClassFile.FieldType.int), Jvm.Cond.code ({ cls := "SagaCoordinator", name := "setSlot", desc := "(IIII)V" } : Jvm.MethodName) prog_1_method_24_code (5 : Nat) (Option.none : Option Jvm.ClassFile.FieldType), Jvm.Cond.code ({ cls := "SagaCoordinator", name := "onReserveRefused", desc := "(II)V" } : Jvm.MethodName) prog_1_method_33_code (3 : Nat) (Option.none : Option Jvm.ClassFile.FieldType), Jvm.Cond.code ({ cls := "SagaCoordinator", name := "compensate", desc := "(I)V" } : Jvm.MethodName) prog_1_method_37_code (3 : Nat) (Option.none : Option Jvm.ClassFile.FieldType), Jvm.Cond.code ({ cls := "SagaCoordinator", name := "highestDone", desc := "(I)I" } : Jvm.MethodName) prog_1_method_36_code (4 : Nat) (Option.some Jvm.ClassFile.FieldType.int), Jvm.Cond.code ({ cls := "SagaCoordinator", name := "giveUp", desc := "(II)V" } : Jvm.MethodName) prog_1_method_35_code (3 : Nat) (Option.none : Option Jvm.ClassFile.FieldType), Jvm.Cond.code ({ cls := "SagaCoordinator", name := "applyRelease", desc := "(I)V" } : Jvm.MethodName) prog_1_method_31_code (3 : Nat) (Option.none : Option Jvm.ClassFile.FieldType), Jvm.Cond.code ({ cls := "SagaCoordinator", name := "onReleaseOk", desc := "(II)V" } : Jvm.MethodName) prog_1_method_34_code (3 : Nat) (Option.none : Option Jvm.ClassFile.FieldType), Jvm.Cond.code ({ cls := "SagaCoordinator", name := "onReserveOk", desc := "(II)V" } : Jvm.MethodName) prog_1_method_32_code (3 : Nat) (Option.none : Option Jvm.ClassFile.FieldType), Jvm.Cond.code ({ cls := "SagaCoordinator", name := "getStepState", desc := "(II)I" } : Jvm.MethodName) prog_1_method_13_code (3 : Nat) (Option.some Jvm.ClassFile.FieldType.int)]
set_option maxRecDepth 65536 in
theorem codes_eq : words1.filter isCode = codes1 := rfl
theorem w_codes : ∀ c ∈ words1.filter isCode, c.before args0 about1 = true := by
  rw [codes_eq]
  intro c hc
  simp only [codes1, List.mem_cons, List.not_mem_nil, or_false] at hc
  rcases hc with rfl | rfl | rfl | rfl | rfl | rfl | rfl | rfl | rfl | rfl | rfl | rfl | rfl | rfl | rfl | rfl | rfl | rfl | rfl | rfl | rfl | rfl | rfl | rfl | rfl | rfl | rfl | rfl | rfl | rfl | rfl | rfl | rfl | rfl | rfl | rfl | rfl | rfl | rfl | rfl | rfl | rfl
  · exact w_c0
  · exact w_c1
  · exact w_c2
  · exact w_c3
  · exact w_c4
  · exact w_c5
  · exact w_c6
  · exact w_c7
  · exact w_c8
  · exact w_c9
  · exact w_c10
  · exact w_c11
  · exact w_c12
  · exact w_c13
  · exact w_c14
  · exact w_c15
  · exact w_c16
  · exact w_c17
  · exact w_c18
  · exact w_c19
  · exact w_c20
  · exact w_c21
  · exact w_c22
  · exact w_c23
  · exact w_c24
  · exact w_c25
  · exact w_c26
  · exact w_c27
  · exact w_c28
  · exact w_c29
  · exact w_c30
  · exact w_c31
  · exact w_c32
  · exact w_c33
  · exact w_c34
  · exact w_c35
  · exact w_c36
  · exact w_c37
  · exact w_c38
  · exact w_c39
  · exact w_c40
  · exact w_c41
set_option maxRecDepth 65536 in
theorem w_t1 : (words1.take 24).all (fun c => isCode c || c.before args0 about1) = true := by decide +kernel
set_option maxRecDepth 65536 in
theorem w_t2 : ((words1.drop 24).take 24).all (fun c => isCode c || c.before args0 about1) = true := by decide +kernel
set_option maxRecDepth 65536 in
theorem w_t3 : (((words1.drop 24).drop 24).take 24).all (fun c => isCode c || c.before args0 about1) = true := by decide +kernel
set_option maxRecDepth 65536 in
theorem w_t4 : ((((words1.drop 24).drop 24).drop 24).take 24).all (fun c => isCode c || c.before args0 about1) = true := by decide +kernel
set_option maxRecDepth 65536 in
theorem w_t5 : (((((words1.drop 24).drop 24).drop 24).drop 24).take 24).all (fun c => isCode c || c.before args0 about1) = true := by decide +kernel
set_option maxRecDepth 65536 in
theorem w_t6 : ((((((words1.drop 24).drop 24).drop 24).drop 24).drop 24).take 24).all (fun c => isCode c || c.before args0 about1) = true := by decide +kernel
set_option maxRecDepth 65536 in
theorem w_t7 : (((((((words1.drop 24).drop 24).drop 24).drop 24).drop 24).drop 24).take 24).all (fun c => isCode c || c.before args0 about1) = true := by decide +kernel
set_option maxRecDepth 65536 in
theorem w_t8 : ((((((((words1.drop 24).drop 24).drop 24).drop 24).drop 24).drop 24).drop 24).take 24).all (fun c => isCode c || c.before args0 about1) = true := by decide +kernel
set_option maxRecDepth 65536 in
theorem w_t9 : ((((((((words1.drop 24).drop 24).drop 24).drop 24).drop 24).drop 24).drop 24).drop 24).all (fun c => isCode c || c.before args0 about1) = true := by decide +kernel
theorem w_tables : (allAtoms (Jvm.Cond.code x code maxLocals ret :: tables_1)).before args0 about1 = true := by
  rw [allAtoms_all]
  show words1.all (fun c => c.before args0 about1) = true
  refine all_split ?_ w_codes
  rw [← List.take_append_drop 24 words1, List.all_append, w_t1, ← List.take_append_drop 24 (words1.drop 24), List.all_append, w_t2, ← List.take_append_drop 24 ((words1.drop 24).drop 24), List.all_append, w_t3, ← List.take_append_drop 24 (((words1.drop 24).drop 24).drop 24), List.all_append, w_t4, ← List.take_append_drop 24 ((((words1.drop 24).drop 24).drop 24).drop 24), List.all_append, w_t5, ← List.take_append_drop 24 (((((words1.drop 24).drop 24).drop 24).drop 24).drop 24), List.all_append, w_t6, ← List.take_append_drop 24 ((((((words1.drop 24).drop 24).drop 24).drop 24).drop 24).drop 24), List.all_append, w_t7, ← List.take_append_drop 24 (((((((words1.drop 24).drop 24).drop 24).drop 24).drop 24).drop 24).drop 24), List.all_append, w_t8, w_t9]
  rfl
set_option maxRecDepth 65536 in
theorem w_rest : rest_1_c.before args0 about1 = true := by decide +kernel
set_option maxRecDepth 65536 in
theorem w_case : (Jvm.Cond.and given_1 narrow_1).before args0 about1 = true := by decide +kernel
theorem w_applies : (headSpec (Jvm.Cond.code x code maxLocals ret :: tables_1) room_1).applies x e0.platform about1 = true :=
  (Spec.applies_iff w_frames).mpr ⟨w_running, w_runnable, w_alone, w_named, w_hears, w_ripe, w_room, w_tables⟩
theorem atStart : AtStart classFile x code maxLocals ret World_1 tables_1 room_1 Calls_1 rest_1 Pre_1 launch0 p0 e0 about1 theMethod args0 below0 :=
  ⟨lists_1, trivial, launch0.admits_env _ _ _, launch0.least_env, fairChoices_fair.cas, fairChoices_fair.clock, w_frames, w_args, w_heap, w_applies, trivial, w_rest, w_case⟩
end start1
theorem witness_1 : WitnessClaimed_1 := ⟨start1.p0, start1.e0, start1.about1, start1.theMethod, start1.args0, start1.below0, start1.atStart⟩
end Jvm.Pilot.@@N@@
