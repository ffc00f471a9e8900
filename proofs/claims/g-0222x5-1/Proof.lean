import JvmDerived
import JvmDerived.Pilot.@@N@@Statement
import JvmDerived.Pilot.@@N@@Code
set_option linter.unusedVariables false
set_option linter.unusedSimpArgs false
@@BLOCK:NumsL.lean.txt@@
namespace Jvm.LM
open Sem ClassFile Op Lib Jvm.Stand Jvm.Free Jvm.LawKit Jvm.RoadKit
/-! A small machine over plain data that mirrors the bytecode of one class and of a law over it. -/
abbrev Lv := List (Option Value)
abbrev St := (Nat → Nat → Int32) × (Nat → Nat → Int64)
abbrev Cd := List (Nat × Instr × Nat)
/-- name, descriptor, kind (0 int, 1 boolean, 2 long, 3+j the j-th array), final -/
abbrev Fe := String × String × Nat × Bool
/-- name, descriptor, number of arguments, return kind (0 none, 1 int, 2 boolean, 3 long), code, max_locals, room: frames, locals -/
abbrev Me := String × String × Nat × Nat × Cd × Nat × Nat × Nat
/-- class name, fields, arrays (kind, length), pool to field, pool to method, pool to constant, methods, pool index of Object's constructor -/
abbrev Cl := String × List (Nat × Fe) × List (Nat × Nat) × List (Nat × Nat) × List (Nat × Nat) × List (Nat × Value) × List (Nat × Me) × Nat
def Me.nm (m : Me) : String := m.1
def Me.ds (m : Me) : String := m.2.1
def Me.na (m : Me) : Nat := m.2.2.1
def Me.rt (m : Me) : Nat := m.2.2.2.1
def Me.cd (m : Me) : Cd := m.2.2.2.2.1
def Me.ml (m : Me) : Nat := m.2.2.2.2.2.1
def Me.rf (m : Me) : Nat := m.2.2.2.2.2.2.1
def Me.rl (m : Me) : Nat := m.2.2.2.2.2.2.2
def Cl.nm (P : Cl) : String := P.1
def Cl.fs (P : Cl) : List (Nat × Fe) := P.2.1
def Cl.al (P : Cl) : List (Nat × Nat) := P.2.2.1
def Cl.fx (P : Cl) : List (Nat × Nat) := P.2.2.2.1
def Cl.mx (P : Cl) : List (Nat × Nat) := P.2.2.2.2.1
def Cl.kx (P : Cl) : List (Nat × Value) := P.2.2.2.2.2.1
def Cl.ms (P : Cl) : List (Nat × Me) := P.2.2.2.2.2.2.1
def Cl.oi (P : Cl) : Nat := P.2.2.2.2.2.2.2
def gI (s : St) (c j : Nat) : Int32 := s.1 c j
def gL (s : St) (c j : Nat) : Int64 := s.2 c j
def sI (s : St) (c j : Nat) (v : Int32) : St := (fun a b => if a = c ∧ b = j then v else s.1 a b, s.2)
def sL (s : St) (c j : Nat) (v : Int64) : St := (s.1, fun a b => if a = c ∧ b = j then v else s.2 a b)
def s0 : St := (fun _ _ => 0, fun _ _ => 0)
def ix (i : Int32) : Nat := i.toNatClampNeg
abbrev inb (n : Nat) (i : Int32) : Prop := 0 ≤ i.toInt ∧ i.toInt < (n : Int)
def asc {α : Type} : List (Nat × α) → Nat → Option α
  | [], _ => none
  | (a, b) :: r, k => match Nat.beq a k with
    | true => some b
    | false => asc r k
def fetch : Cd → Nat → Option (Instr × Nat)
  | [], _ => none
  | (a, b) :: r, k => match Nat.beq a k with
    | true => some b
    | false => fetch r k
def ilen : Instr → Nat
  | .iload _ => 2 | .lload _ => 2 | .aload _ => 2 | .istore _ => 2 | .lstore _ => 2 | .astore _ => 2 | .bipush _ => 2 | .ldc _ => 2 | .newarray _ => 2
  | .sipush _ => 3 | .iinc _ _ => 3 | .goto _ => 3 | .ifCond _ _ => 3 | .if_icmp _ _ => 3 | .getfield _ => 3 | .putfield _ => 3
  | .invokevirtual _ => 3 | .invokespecial _ => 3 | .invokestatic _ => 3 | .new _ => 3 | .ldc2_w _ => 3
  | _ => 1
def isSw : Instr → Bool
  | .tableswitch _ _ _ _ => true
  | _ => false
def clr (ls : Lv) : Nat → Lv
  | 0 => ls
  | j + 1 => match ls[j]? with
    | some (some (.long _)) => ls.set j none
    | some (some (.double _)) => ls.set j none
    | _ => ls
/-- a store into the local variables: a long takes two -/
def stl (ls : Lv) (i : Nat) (v : Value) : Option Lv :=
  match v with
  | .long x => if i + 1 < ls.length then some (((clr ls i).set i (some (.long x))).set (i + 1) none) else none
  | w => if i < ls.length then some ((clr ls i).set i (some w)) else none
def br (cd : ClassFile.Cond) (x y : Int32) (a b : Nat) : Nat :=
  match cd with
  | .eq => if x = y then a else b
  | .ne => if x = y then b else a
  | .lt => if x < y then a else b
  | .ge => if x < y then b else a
  | .gt => if y < x then a else b
  | .le => if y < x then b else a
def jmp (pc : Nat) (o : Int) : Nat := ((pc : Int) + o).toNat
def qstep (i : Instr) (pc : Nat) (st : List Value) : Option (Nat × List Value) :=
  match i with
  | .iconst v => some (pc + 1, .int (Int32.ofInt v) :: st)
  | .bipush v => some (pc + 2, .int (Int8.ofInt v).toInt32 :: st)
  | .sipush v => some (pc + 3, .int (Int16.ofInt v).toInt32 :: st)
  | .lconst k => some (pc + 1, .long (Int64.ofNat k) :: st)
  | .iadd => match st with | .int y :: .int x :: r => some (pc + 1, .int (x + y) :: r) | _ => none
  | .isub => match st with | .int y :: .int x :: r => some (pc + 1, .int (x - y) :: r) | _ => none
  | .imul => match st with | .int y :: .int x :: r => some (pc + 1, .int (x * y) :: r) | _ => none
  | .iand => match st with | .int y :: .int x :: r => some (pc + 1, .int (x &&& y) :: r) | _ => none
  | .ior => match st with | .int y :: .int x :: r => some (pc + 1, .int (x ||| y) :: r) | _ => none
  | .ixor => match st with | .int y :: .int x :: r => some (pc + 1, .int (x ^^^ y) :: r) | _ => none
  | .ishl => match st with | .int y :: .int x :: r => some (pc + 1, .int (x <<< (y &&& 31)) :: r) | _ => none
  | .ishr => match st with | .int y :: .int x :: r => some (pc + 1, .int (x >>> (y &&& 31)) :: r) | _ => none
  | .iushr => match st with | .int y :: .int x :: r => some (pc + 1, .int (XT.ushr x y) :: r) | _ => none
  | .idiv => match st with | .int y :: .int x :: r => if y = 0 then none else some (pc + 1, .int (x / y) :: r) | _ => none
  | .irem => match st with | .int y :: .int x :: r => if y = 0 then none else some (pc + 1, .int (x % y) :: r) | _ => none
  | .ineg => match st with | .int x :: r => some (pc + 1, .int (-x) :: r) | _ => none
  | .ladd => match st with | .long y :: .long x :: r => some (pc + 1, .long (x + y) :: r) | _ => none
  | .lsub => match st with | .long y :: .long x :: r => some (pc + 1, .long (x - y) :: r) | _ => none
  | .lmul => match st with | .long y :: .long x :: r => some (pc + 1, .long (x * y) :: r) | _ => none
  | .land => match st with | .long y :: .long x :: r => some (pc + 1, .long (x &&& y) :: r) | _ => none
  | .lor => match st with | .long y :: .long x :: r => some (pc + 1, .long (x ||| y) :: r) | _ => none
  | .lxor => match st with | .long y :: .long x :: r => some (pc + 1, .long (x ^^^ y) :: r) | _ => none
  | .lshl => match st with | .int y :: .long x :: r => some (pc + 1, .long (x <<< (y.toInt64 &&& 63)) :: r) | _ => none
  | .lshr => match st with | .int y :: .long x :: r => some (pc + 1, .long (x >>> (y.toInt64 &&& 63)) :: r) | _ => none
  | .lushr => match st with | .int y :: .long x :: r => some (pc + 1, .long (XT.ushrL x y) :: r) | _ => none
  | .ldiv => match st with | .long y :: .long x :: r => if y = 0 then none else some (pc + 1, .long (x / y) :: r) | _ => none
  | .lneg => match st with | .long x :: r => some (pc + 1, .long (-x) :: r) | _ => none
  | .lcmp => match st with | .long y :: .long x :: r => some (pc + 1, .int (XT.cmpL x y) :: r) | _ => none
  | .i2l => match st with | .int x :: r => some (pc + 1, .long x.toInt64 :: r) | _ => none
  | .l2i => match st with | .long x :: r => some (pc + 1, .int x.toInt32 :: r) | _ => none
  | .dup => match st with | .int x :: r => some (pc + 1, .int x :: .int x :: r) | .ref x :: r => some (pc + 1, .ref x :: .ref x :: r) | _ => none
  | .pop => match st with | .int _ :: r => some (pc + 1, r) | .ref _ :: r => some (pc + 1, r) | _ => none
  | .goto o => if 0 ≤ (pc : Int) + o then some (jmp pc o, st) else none
  | .ifCond cd o => match st with | .int x :: r => if 0 ≤ (pc : Int) + o then some (br cd x 0 (jmp pc o) (pc + 3), r) else none | _ => none
  | .if_icmp cd o => match st with | .int y :: .int x :: r => if 0 ≤ (pc : Int) + o then some (br cd x y (jmp pc o) (pc + 3), r) else none | _ => none
  | .tableswitch d lo hi offs => match st with
    | .int x :: r => if x.toInt < lo ∨ x.toInt > hi then (if 0 ≤ (pc : Int) + d then some (jmp pc d, r) else none)
      else (match offs[(x.toInt - lo).toNat]? with | some o => if 0 ≤ (pc : Int) + o then some (jmp pc o, r) else none | none => none)
    | _ => none
  | _ => none
def pstep (i : Instr) (pc : Nat) (ls : Lv) (st : List Value) : Option (Nat × Lv × List Value) :=
  match i with
  | .iload_n k => match ls[k.val]? with | some (some (.int v)) => some (pc + 1, ls, .int v :: st) | _ => none
  | .iload k => match ls[k]? with | some (some (.int v)) => some (pc + 2, ls, .int v :: st) | _ => none
  | .lload_n k => match ls[k.val]? with | some (some (.long v)) => some (pc + 1, ls, .long v :: st) | _ => none
  | .lload k => match ls[k]? with | some (some (.long v)) => some (pc + 2, ls, .long v :: st) | _ => none
  | .aload_n k => match ls[k.val]? with | some (some (.ref v)) => some (pc + 1, ls, .ref v :: st) | _ => none
  | .aload k => match ls[k]? with | some (some (.ref v)) => some (pc + 2, ls, .ref v :: st) | _ => none
  | .istore_n k => match st with | .int v :: r => (match stl ls k.val (.int v) with | some l => some (pc + 1, l, r) | none => none) | _ => none
  | .istore k => match st with | .int v :: r => (match stl ls k (.int v) with | some l => some (pc + 2, l, r) | none => none) | _ => none
  | .lstore_n k => match st with | .long v :: r => (match stl ls k.val (.long v) with | some l => some (pc + 1, l, r) | none => none) | _ => none
  | .lstore k => match st with | .long v :: r => (match stl ls k (.long v) with | some l => some (pc + 2, l, r) | none => none) | _ => none
  | .astore_n k => match st with | .ref v :: r => (match stl ls k.val (.ref v) with | some l => some (pc + 1, l, r) | none => none) | _ => none
  | .astore k => match st with | .ref v :: r => (match stl ls k (.ref v) with | some l => some (pc + 2, l, r) | none => none) | _ => none
  | .iinc k d => match ls[k]? with | some (some (.int v)) => (match stl ls k (.int (v + Int32.ofInt d)) with | some l => some (pc + 3, l, st) | none => none) | _ => none
  | i => match qstep i pc st with | some (pc', st') => some (pc', ls, st') | none => none
/-- how the machine's references stand in the heap -/
def va (ρ : Nat → Nat) : Value → Value
  | .ref c => .ref (ρ c)
  | v => v
def WF (L : Array Slot) : Prop :=
  (∀ (k : Nat) (v : Value), L[k]? = some (Slot.val v) → v.category = 2 → L[k + 1]? = some .second) ∧
  (∀ k : Nat, L[k + 1]? = some Slot.second → ∃ v : Value, L[k]? = some (Slot.val v) ∧ v.category = 2) ∧ L[0]? ≠ some Slot.second
def LR (ρ : Nat → Nat) (ls : Lv) (L : Array Slot) : Prop :=
  L.size = ls.length ∧ (∀ (k : Nat) (v : Value), ls[k]? = some (some v) → L[k]? = some (Slot.val (va ρ v))) ∧ WF L
end Jvm.LM

namespace Jvm.LM
open Sem ClassFile Op Lib Jvm.Stand Jvm.Free Jvm.LawKit Jvm.RoadKit
/-! the local variables -/
def upd (f : Nat → Option Slot) (i : Nat) (x : Slot) : Nat → Option Slot := fun k => if k = i then some x else f k
def WFf (f : Nat → Option Slot) : Prop :=
  (∀ k v, f k = some (.val v) → v.category = 2 → f (k + 1) = some .second) ∧
  (∀ k, f (k + 1) = some .second → ∃ v, f k = some (.val v) ∧ v.category = 2) ∧ f 0 ≠ some .second
def clearF (f : Nat → Option Slot) (i : Nat) : Nat → Option Slot :=
  match f i with
  | some .second => upd (upd f (i - 1) .unset) i .unset
  | some (.val old) => if old.category = 2 then upd (upd f (i + 1) .unset) i .unset else upd f i .unset
  | _ => f
theorem clearF_cases (f : Nat → Option Slot) (i : Nat) : (f i = some .second ∧ clearF f i = upd (upd f (i - 1) .unset) i .unset) ∨ (∃ old, f i = some (.val old) ∧ old.category = 2 ∧ clearF f i = upd (upd f (i + 1) .unset) i .unset) ∨
    (∃ old, f i = some (.val old) ∧ old.category ≠ 2 ∧ clearF f i = upd f i .unset) ∨ ((f i = some .unset ∨ f i = none) ∧ clearF f i = f) := by
  cases h : f i with
  | none => exact Or.inr (Or.inr (Or.inr ⟨Or.inr rfl, by simp only [clearF, h]⟩))
  | some x =>
    cases x with
    | unset => exact Or.inr (Or.inr (Or.inr ⟨Or.inl rfl, by simp only [clearF, h]⟩))
    | second => exact Or.inl ⟨rfl, by simp only [clearF, h]⟩
    | val old =>
      by_cases hc : old.category = 2
      · exact Or.inr (Or.inl ⟨old, rfl, hc, by simp only [clearF, h]; rw [if_pos hc]⟩)
      · exact Or.inr (Or.inr (Or.inl ⟨old, rfl, hc, by simp only [clearF, h]; rw [if_neg hc]⟩))
theorem wff_clear {f : Nat → Option Slot} (h : WFf f) (i : Nat) : WFf (clearF f i) := by
  obtain ⟨h1, h2, h3⟩ := h
  unfold clearF
  split
  · rename_i e
    cases i with
    | zero => exact absurd e h3
    | succ j =>
      refine ⟨fun k v hk hc => ?_, fun k hk => ?_, ?_⟩
      · simp only [upd, Nat.add_sub_cancel] at hk ⊢
        have := h1 k v
        by_cases a : k = j + 1
        · simp [a] at hk
        · by_cases b : k = j
          · simp [b] at hk
          · have c : k + 1 ≠ j + 1 := by omega
            simp only [a, b, if_false] at hk
            by_cases d : k + 1 = j
            · have := h1 k v hk hc
              obtain ⟨w, hw, hw2⟩ := h2 j e
              rw [d, hw] at this; cases this
            · simp [c, d, b, h1 k v hk hc]
      · simp only [upd, Nat.add_sub_cancel] at hk ⊢
        by_cases a : k = j
        · simp [a] at hk
        · by_cases b : k + 1 = j
          · simp [b] at hk
          · simp only [show ¬ (k + 1 = j + 1) by omega, b, if_false] at hk
            obtain ⟨w, hw, hw2⟩ := h2 k hk
            by_cases d : k = j + 1
            · rw [d, e] at hw; cases hw
            · exact ⟨w, by simp [d, a, hw], hw2⟩
      · simp only [upd, Nat.add_sub_cancel]
        by_cases b : 0 = j
        · simp [← b]
        · simp [b, h3]
  · rename_i old e
    split
    · rename_i hc2
      have e2 := h1 i old e hc2
      refine ⟨fun k v hk hc => ?_, fun k hk => ?_, ?_⟩
      · simp only [upd] at hk ⊢
        by_cases a : k = i
        · simp [a] at hk
        · by_cases b : k = i + 1
          · simp [b] at hk
          · simp only [a, b, if_false] at hk
            have q := h1 k v hk hc
            by_cases d : k + 1 = i
            · rw [d, e] at q; cases q
            · simp [d, a, show ¬ (k + 1 = i + 1) by omega, q]
      · simp only [upd] at hk ⊢
        by_cases a : k + 1 = i
        · simp [a] at hk
        · by_cases b : k = i
          · simp [b] at hk
          · simp only [a, show ¬ (k + 1 = i + 1) by omega, if_false] at hk
            obtain ⟨w, hw, hw2⟩ := h2 k hk
            by_cases d : k = i + 1
            · rw [d, e2] at hw; cases hw
            · exact ⟨w, by simp [d, b, hw], hw2⟩
      · simp only [upd]
        by_cases b : 0 = i
        · simp [← b]
        · simp [b, h3]
    · rename_i hc2
      refine ⟨fun k v hk hc => ?_, fun k hk => ?_, ?_⟩
      · simp only [upd] at hk ⊢
        by_cases a : k = i
        · simp [a] at hk
        · simp only [a, if_false] at hk
          have q := h1 k v hk hc
          by_cases d : k + 1 = i
          · rw [d, e] at q; cases q
          · simp [d, q]
      · simp only [upd] at hk ⊢
        by_cases a : k + 1 = i
        · simp [a] at hk
        · simp only [a, if_false] at hk
          obtain ⟨w, hw, hw2⟩ := h2 k hk
          by_cases d : k = i
          · rw [d, e] at hw; cases hw; exact absurd hw2 hc2
          · exact ⟨w, by simp [d, hw], hw2⟩
      · simp only [upd]
        by_cases b : 0 = i
        · simp [← b]
        · simp [b, h3]
  · exact ⟨h1, h2, h3⟩
theorem wff_one {f : Nat → Option Slot} (h : WFf f) {i : Nat} (e : f i = some .unset) {v : Value} (hv : v.category ≠ 2) : WFf (upd f i (.val v)) := by
  obtain ⟨h1, h2, h3⟩ := h
  refine ⟨fun k w hk hc => ?_, fun k hk => ?_, ?_⟩
  · simp only [upd] at hk ⊢
    by_cases a : k = i
    · simp only [a, if_true, Option.some.injEq, Slot.val.injEq] at hk; subst hk; exact absurd hc hv
    · simp only [a, if_false] at hk
      have q := h1 k w hk hc
      by_cases d : k + 1 = i
      · rw [d, e] at q; cases q
      · simp [d, q]
  · simp only [upd] at hk ⊢
    by_cases a : k + 1 = i
    · simp [a] at hk
    · simp only [a, if_false] at hk
      obtain ⟨w, hw, hw2⟩ := h2 k hk
      by_cases d : k = i
      · rw [d, e] at hw; cases hw
      · exact ⟨w, by simp [d, hw], hw2⟩
  · simp only [upd]
    by_cases b : 0 = i
    · simp [← b]
    · simp [b, h3]
theorem wff_two {f : Nat → Option Slot} (h : WFf f) {i : Nat} (e : f i = some .unset) (e' : f (i + 1) = some .unset) {v : Value} (hv : v.category = 2) : WFf (upd (upd f i (.val v)) (i + 1) .second) := by
  obtain ⟨h1, h2, h3⟩ := h
  refine ⟨fun k w hk hc => ?_, fun k hk => ?_, ?_⟩
  · simp only [upd] at hk ⊢
    by_cases a : k = i + 1
    · simp [a] at hk
    · by_cases b : k = i
      · simp [b]
      · simp only [a, b, if_false] at hk
        have q := h1 k w hk hc
        by_cases d : k + 1 = i
        · rw [d, e] at q; cases q
        · simp [d, show ¬ (k + 1 = i + 1) by omega, q]
  · simp only [upd] at hk ⊢
    by_cases a : k = i
    · exact ⟨v, by simp [a], hv⟩
    · by_cases b : k + 1 = i
      · simp [b] at hk
      · simp only [show ¬ (k + 1 = i + 1) by omega, b, if_false] at hk
        obtain ⟨w, hw, hw2⟩ := h2 k hk
        by_cases d : k = i + 1
        · rw [d, e'] at hw; cases hw
        · exact ⟨w, by simp [d, a, hw], hw2⟩
  · simp only [upd]
    by_cases b : 0 = i
    · simp [← b]
    · simp [b, h3]
theorem gset (L : Array Slot) {i : Nat} (hi : i < L.size) (x : Slot) : (fun k => (L.setIfInBounds i x)[k]?) = upd (fun k => L[k]?) i x := by
  funext k
  simp only [upd, Array.getElem?_setIfInBounds]
  by_cases a : i = k
  · subst a; simp [hi]
  · simp [a, show ¬ k = i from fun h => a h.symm]
theorem sl_eq (L : Array Slot) (i : Nat) (v : Value) : storeLocals L i v = (L[i]?).bind (fun x => match x with
    | .second => (setAt L (i - 1) .unset).bind (fun l => storeSelf l i v)
    | .val old => if old.category = 2 then (setAt L (i + 1) .unset).bind (fun l => storeSelf l i v) else storeSelf L i v
    | .unset => storeSelf L i v) := rfl
theorem ss_eq (L : Array Slot) (i : Nat) (v : Value) : storeSelf L i v = (setAt L i (.val v)).bind (fun l => if v.category = 2 then (l[i + 1]?).bind (fun x => match x with
    | .val old => if old.category = 2 then (setAt l (i + 2) .unset).bind (fun l' => setAt l' (i + 1) .second) else setAt l (i + 1) .second
    | _ => setAt l (i + 1) .second) else some l) := rfl
theorem sa_eq {L : Array Slot} {i : Nat} (hi : i < L.size) (x : Slot) : setAt L i x = some (L.setIfInBounds i x) := if_pos hi
theorem upd_upd (f : Nat → Option Slot) (i : Nat) (x y : Slot) : upd (upd f i x) i y = upd f i y := by
  funext k; simp only [upd]; split <;> rfl
/-- what a store clears first -/
theorem clear_ok {L : Array Slot} (hW : WF L) {i : Nat} (hi : i < L.size) (v : Value) : ∃ L1, storeLocals L i v = storeSelf L1 i v ∧ L1.size = L.size ∧ upd (fun k => L1[k]?) i .unset = upd (clearF (fun k => L[k]?) i) i .unset := by
  have hh : WFf (fun k => L[k]?) := hW
  obtain ⟨sl, hsl⟩ : ∃ sl, L[i]? = some sl := ⟨L[i], Array.getElem?_eq_getElem hi⟩
  rw [sl_eq, hsl, Option.bind_some]
  cases sl with
  | unset => exact ⟨L, rfl, rfl, by simp only [clearF, hsl]⟩
  | second =>
    refine ⟨L.setIfInBounds (i - 1) .unset, ?_, by simp, ?_⟩
    · show (setAt L (i - 1) .unset).bind _ = _
      rw [sa_eq (by omega)]; rfl
    · rw [gset _ (by omega)]; simp only [clearF, hsl, upd_upd]
  | val old =>
    by_cases hc : old.category = 2
    · have h2 := hh.1 i old hsl hc
      have hlt : i + 1 < L.size := (Array.getElem?_eq_some_iff.mp h2).1
      refine ⟨L.setIfInBounds (i + 1) .unset, ?_, by simp, ?_⟩
      · show (if old.category = 2 then _ else _) = _
        rw [if_pos hc, sa_eq hlt]; rfl
      · rw [gset _ hlt]; simp only [clearF, hsl, hc, if_true, upd_upd]
    · refine ⟨L, ?_, rfl, ?_⟩
      · show (if old.category = 2 then _ else _) = _
        rw [if_neg hc]
      · simp only [clearF, hsl, hc, if_false, upd_upd]
theorem clearF_at {f : Nat → Option Slot} {i : Nat} (hi : f i ≠ none) : clearF f i i = some .unset := by
  rcases clearF_cases f i with ⟨h1, h2⟩ | ⟨old, h1, h3, h2⟩ | ⟨old, h1, h3, h2⟩ | ⟨h1 | h1, h2⟩
  · rw [h2]; simp [upd]
  · rw [h2]; simp [upd]
  · rw [h2]; simp [upd]
  · rw [h2]; exact h1
  · exact absurd h1 hi
theorem clearF_self {f : Nat → Option Slot} {i : Nat} (hi : f i ≠ none) : upd (clearF f i) i .unset = clearF f i := by
  funext k; simp only [upd]; split
  · rename_i e; rw [e]; exact (clearF_at hi).symm
  · rfl
/-- the other variables: kept, or they held (a part of) a long -/
theorem clearF_keep {f : Nat → Option Slot} (h : WFf f) {i k : Nat} {w : Value} (hk : k ≠ i) (e : f k = some (.val w)) (hw : k + 1 = i → w.category ≠ 2) : clearF f i k = some (.val w) := by
  rcases clearF_cases f i with ⟨e2, h2⟩ | ⟨old, e2, hc, h2⟩ | ⟨old, e2, hc, h2⟩ | ⟨-, h2⟩
  · rw [h2]
    cases i with
    | zero => exact absurd e2 h.2.2
    | succ j =>
      simp only [upd, Nat.add_sub_cancel, hk, if_false]
      split
      · rename_i hj; subst hj
        obtain ⟨v, hv, hv2⟩ := h.2.1 k e2
        rw [e] at hv; cases hv; exact absurd hv2 (hw rfl)
      · exact e
  · rw [h2]
    have q := h.1 i old e2 hc
    simp only [upd, hk, if_false]
    split
    · rename_i hj; rw [hj, q] at e; cases e
    · exact e
  · rw [h2]; simp [upd, hk, e]
  · rw [h2]; exact e
theorem store_one {L : Array Slot} (hW : WF L) {i : Nat} (hi : i < L.size) {v : Value} (hv : v.category ≠ 2) :
    ∃ L', storeLocals L i v = some L' ∧ L'.size = L.size ∧ WF L' ∧ (fun k => L'[k]?) = upd (clearF (fun k => L[k]?) i) i (.val v) := by
  obtain ⟨L1, h1, h2, h3⟩ := clear_ok hW hi v
  have hne : (fun k => L[k]?) i ≠ none := by simp; omega
  have hi1 : i < L1.size := by omega
  refine ⟨L1.setIfInBounds i (.val v), ?_, by simp [h2], ?_, ?_⟩
  · rw [h1, ss_eq, sa_eq hi1, Option.bind_some, if_neg hv]
  · have q : (fun k => (L1.setIfInBounds i (.val v))[k]?) = upd (clearF (fun k => L[k]?) i) i (.val v) := by
      rw [gset _ hi1, ← upd_upd _ i .unset, h3, upd_upd]
    have w : WFf (fun k => (L1.setIfInBounds i (.val v))[k]?) := by
      rw [q]; exact wff_one (wff_clear hW i) (clearF_at hne) hv
    exact w
  · rw [gset _ hi1, ← upd_upd _ i .unset, h3, upd_upd]
theorem store_two {L : Array Slot} (hW : WF L) {i : Nat} (hi : i + 1 < L.size) {v : Value} (hv : v.category = 2) :
    ∃ L', storeLocals L i v = some L' ∧ L'.size = L.size ∧ WF L' ∧ (fun k => L'[k]?) = upd (upd (clearF (clearF (fun k => L[k]?) i) (i + 1)) i (.val v)) (i + 1) .second := by
  obtain ⟨L1, h1, h2, h3⟩ := clear_ok hW (show i < L.size by omega) v
  have hne : (fun k => L[k]?) i ≠ none := by simp; omega
  have hi1 : i < L1.size := by omega
  have hi2 : i + 1 < L1.size := by omega
  rw [clearF_self hne] at h3
  have hWc := wff_clear (f := fun k => L[k]?) hW i
  generalize hF : clearF (fun k => L[k]?) i = F at *
  have hFi : F i = some .unset := by rw [← hF]; exact clearF_at hne
  have g1 : (fun k => (L1.setIfInBounds i (.val v))[k]?) = upd F i (.val v) := by rw [gset _ hi1, ← upd_upd _ i .unset, h3]
  have g2 : (L1.setIfInBounds i (.val v))[i + 1]? = F (i + 1) := by
    have := congrFun g1 (i + 1); simpa [upd] using this
  have hFi1 : F (i + 1) ≠ none := by
    have : (L1.setIfInBounds i (.val v))[i + 1]? ≠ none := by simp; omega
    rw [g2] at this; exact this
  have hns : F (i + 1) ≠ some .second := fun q => by
    obtain ⟨w, hw, -⟩ := hWc.2.1 i q
    rw [hFi] at hw; cases hw
  have key : ∀ G : Nat → Option Slot, WFf G → G i = some .unset → G (i + 1) = some .unset → G = clearF F (i + 1) → WFf (upd (upd (clearF F (i + 1)) i (.val v)) (i + 1) .second) := fun G hG a b e => by rw [← e]; exact wff_two hG a b hv
  have hcl := wff_clear hWc (i + 1)
  have hcli : clearF F (i + 1) i = some .unset := by
    rcases clearF_cases F (i + 1) with ⟨q, h2⟩ | ⟨old, q, hc, h2⟩ | ⟨old, q, hc, h2⟩ | ⟨-, h2⟩
    · exact absurd q hns
    · rw [h2]; simp [upd, hFi]
    · rw [h2]; simp [upd, hFi]
    · rw [h2]; exact hFi
  have hWF := wff_two hcl hcli (clearF_at hFi1) hv
  rw [h1, ss_eq, sa_eq hi1, Option.bind_some, if_pos hv, g2]
  cases hx : F (i + 1) with
  | none => exact absurd hx hFi1
  | some sl =>
    cases sl with
    | second => exact absurd hx hns
    | unset =>
      have e1 : clearF F (i + 1) = F := by simp only [clearF, hx]
      have e3 : (fun k => ((L1.setIfInBounds i (.val v)).setIfInBounds (i + 1) .second)[k]?) = upd (upd (clearF F (i + 1)) i (.val v)) (i + 1) .second := by
        rw [gset _ (by simpa using hi2), g1, e1]
      refine ⟨(L1.setIfInBounds i (.val v)).setIfInBounds (i + 1) .second, ?_, by simp [h2], ?_, e3⟩
      · show setAt _ (i + 1) .second = _
        rw [sa_eq (by simpa using hi2)]
      · have w : WFf (fun k => ((L1.setIfInBounds i (.val v)).setIfInBounds (i + 1) .second)[k]?) := by rw [e3]; exact hWF
        exact w
    | val old =>
      by_cases hc : old.category = 2
      · have q := hWc.1 _ _ hx hc
        have hi3 : i + 2 < L1.size := by
          have q2 : (L1.setIfInBounds i (.val v))[i + 2]? = some .second := by
            have := congrFun g1 (i + 2); simpa [upd, q] using this
          have := (Array.getElem?_eq_some_iff.mp q2).1
          simpa using this
        have e1 : clearF F (i + 1) = upd (upd F (i + 2) .unset) (i + 1) .unset := by simp only [clearF, hx, hc, if_true]
        have e3 : (fun k => (((L1.setIfInBounds i (.val v)).setIfInBounds (i + 2) .unset).setIfInBounds (i + 1) .second)[k]?) = upd (upd (clearF F (i + 1)) i (.val v)) (i + 1) .second := by
          rw [gset _ (by simpa using hi2), gset _ (by simpa using hi3), g1, e1]
          funext k; simp only [upd]
          by_cases a : k = i + 1
          · simp [a]
          · by_cases b : k = i
            · simp [b]
            · simp [a, b]
        refine ⟨((L1.setIfInBounds i (.val v)).setIfInBounds (i + 2) .unset).setIfInBounds (i + 1) .second, ?_, by simp [h2], ?_, e3⟩
        · show (if old.category = 2 then _ else _) = _
          rw [if_pos hc, sa_eq (by simpa using hi3), Option.bind_some, sa_eq (by simpa using hi2)]
        · have w : WFf (fun k => (((L1.setIfInBounds i (.val v)).setIfInBounds (i + 2) .unset).setIfInBounds (i + 1) .second)[k]?) := by rw [e3]; exact hWF
          exact w
      · have e1 : clearF F (i + 1) = upd F (i + 1) .unset := by simp only [clearF, hx, hc, if_false]
        have e3 : (fun k => ((L1.setIfInBounds i (.val v)).setIfInBounds (i + 1) .second)[k]?) = upd (upd (clearF F (i + 1)) i (.val v)) (i + 1) .second := by
          rw [gset _ (by simpa using hi2), g1, e1]
          funext k; simp only [upd]
          by_cases a : k = i + 1
          · simp [a]
          · by_cases b : k = i
            · simp [b]
            · simp [a, b]
        refine ⟨(L1.setIfInBounds i (.val v)).setIfInBounds (i + 1) .second, ?_, by simp [h2], ?_, e3⟩
        · show (if old.category = 2 then _ else _) = _
          rw [if_neg hc, sa_eq (by simpa using hi2)]
        · have w : WFf (fun k => ((L1.setIfInBounds i (.val v)).setIfInBounds (i + 1) .second)[k]?) := by rw [e3]; exact hWF
          exact w
theorem cat_va (ρ : Nat → Nat) (v : Value) : (va ρ v).category = v.category := by cases v <;> rfl
theorem clr_len (ls : Lv) (i : Nat) : (clr ls i).length = ls.length := by
  cases i with
  | zero => rfl
  | succ j => simp only [clr]; split <;> simp
theorem clr_get {ls : Lv} {i k : Nat} {v : Value} (h : (clr ls i)[k]? = some (some v)) : ls[k]? = some (some v) ∧ (k + 1 = i → v.category ≠ 2) := by
  cases i with
  | zero => exact ⟨h, fun q => by omega⟩
  | succ j =>
    simp only [clr] at h
    split at h
    · rename_i x e
      rw [List.getElem?_set] at h
      split at h
      · rename_i hj; subst hj; split at h <;> simp at h
      · rename_i hj; exact ⟨h, fun q => by omega⟩
    · rename_i x e
      rw [List.getElem?_set] at h
      split at h
      · rename_i hj; subst hj; split at h <;> simp at h
      · rename_i hj; exact ⟨h, fun q => by omega⟩
    · rename_i e1 e2
      refine ⟨h, fun q hc => ?_⟩
      have hk : k = j := by omega
      subst hk
      cases v <;> first | exact e1 _ h | exact e2 _ h | (exact Nat.noConfusion (Nat.succ.inj hc))
theorem store_ok {ρ : Nat → Nat} {ls ls' : Lv} {L : Array Slot} {i : Nat} {v : Value} (hL : LR ρ ls L) (hd : ∀ x, v ≠ .double x) (h : stl ls i v = some ls') : ∃ L', storeLocals L i (va ρ v) = some L' ∧ LR ρ ls' L' ∧ L'.size = L.size := by
  obtain ⟨hz, hr, hW⟩ := hL
  have hWf : WFf (fun k => L[k]?) := hW
  by_cases hc : v.category = 2
  · obtain ⟨x, rfl⟩ : ∃ x, v = .long x := by cases v <;> simp [Value.category] at hc <;> first | exact ⟨_, rfl⟩ | exact absurd rfl (hd _)
    simp only [stl] at h
    split at h
    · rename_i hi
      cases h
      obtain ⟨L', a1, a2, a3, a4⟩ := store_two hW (show i + 1 < L.size by omega) (v := va ρ (.long x)) rfl
      refine ⟨L', a1, ⟨by simp [a2, hz, clr_len], fun k w hk => ?_, a3⟩, a2⟩
      have q : L'[k]? = _ := congrFun a4 k
      rw [q]
      rw [List.getElem?_set] at hk
      split at hk
      · simp at hk
      · rename_i hk1
        rw [List.getElem?_set] at hk
        split at hk
        · rename_i hk2; subst hk2
          simp only [clr_len] at hk
          split at hk
          · cases hk; simp [upd]
          · simp at hk
        · rename_i hk2
          obtain ⟨b1, b2⟩ := clr_get hk
          have b3 := hr _ _ b1
          have b4 : clearF (fun k => L[k]?) i k = some (.val (va ρ w)) := clearF_keep hWf (fun q => hk2 q.symm) b3 (fun q => by rw [cat_va]; exact b2 q)
          have b5 := clearF_keep (wff_clear hWf i) (i := i + 1) (fun q => hk1 q.symm) b4 (fun q => absurd (Nat.succ.inj q) fun z => hk2 z.symm)
          simp only [upd, show ¬ k = i + 1 from fun q => hk1 q.symm, show ¬ k = i from fun q => hk2 q.symm, if_false]
          exact b5
    · cases h
  · have hs : stl ls i v = if i < ls.length then some ((clr ls i).set i (some v)) else none := by cases v <;> first | rfl | exact absurd rfl hc
    rw [hs] at h
    split at h
    · rename_i hi
      cases h
      obtain ⟨L', a1, a2, a3, a4⟩ := store_one hW (show i < L.size by omega) (v := va ρ v) (by rw [cat_va]; exact hc)
      refine ⟨L', a1, ⟨by simp [a2, hz, clr_len], fun k w hk => ?_, a3⟩, a2⟩
      have q : L'[k]? = _ := congrFun a4 k
      rw [q]
      rw [List.getElem?_set] at hk
      split at hk
      · rename_i hk2; subst hk2
        simp only [clr_len] at hk
        split at hk
        · cases hk; simp [upd]
        · omega
      · rename_i hk2
        obtain ⟨b1, b2⟩ := clr_get hk
        have b3 := hr _ _ b1
        have b4 : clearF (fun k => L[k]?) i k = some (.val (va ρ w)) := clearF_keep hWf (fun q => hk2 q.symm) b3 (fun q => by rw [cat_va]; exact b2 q)
        simp only [upd, show ¬ k = i from fun q => hk2 q.symm, if_false]
        exact b4
    · cases h
end Jvm.LM

namespace Jvm.LM
open Sem ClassFile Op Lib Jvm.Stand Jvm.Free Jvm.LawKit Jvm.RoadKit
section Pure
variable {p : Program} {l : Launch} {e : Env} {R : Room} {s : State} {m : MethodId} {args : Array Value} {below : List Frame} {meth : Method} {c : Code} {T : State} {locs : List Loc} {cells slots : Nat}
theorem br_eq (cd : ClassFile.Cond) (x y : Int32) (a b : Nat) : br cd x y a b = if if_icmp.holds cd x y = true then a else b := by
  cases cd <;> simp only [br]
  · by_cases h : x = y <;> simp [h, XT.ii_eq_t, XT.ii_eq_f]
  · by_cases h : x = y
    · rw [if_pos h, XT.ii_ne_f h]; rfl
    · rw [if_neg h, XT.ii_ne_t h]; rfl
  · by_cases h : x < y
    · rw [if_pos h, XT.ii_lt_t h]; rfl
    · rw [if_neg h, XT.ii_lt_f h]; rfl
  · by_cases h : x < y
    · rw [if_pos h, XT.ii_ge_f h]; rfl
    · rw [if_neg h, XT.ii_ge_t h]; rfl
  · by_cases h : y < x
    · rw [if_pos h, XT.ii_gt_t h]; rfl
    · rw [if_neg h, XT.ii_gt_f h]; rfl
  · by_cases h : y < x
    · rw [if_pos h, XT.ii_le_f h]; rfl
    · rw [if_neg h, XT.ii_le_t h]; rfl
theorem qstep_sound (X : Stand p l e R s m args below meth c T locs cells slots) (hx : p.tables.exec = Jvm.exec) {ρ : Nat → Nat} {i : Instr} {n pc pc' : Nat} {st st' : List Value}
    (h : qstep i pc st = some (pc', st')) (hd : decode c.code pc = .ok (i, n)) (hn : isSw i = true ∨ n = ilen i) {L : Array Slot} :
    ∀ target, Steps p.tables e below (T.setTop (mkF m pc' L (st'.map (va ρ)))) target → Steps p.tables e below (T.setTop (mkF m pc L (st.map (va ρ)))) target := by
  by_cases hsw : isSw i = true
  · cases i <;> first | exact absurd hsw Bool.false_ne_true | skip
    rename_i d lo hi offs
    simp only [qstep] at h
    split at h
    · rename_i x r
      split at h
      · rename_i e1
        split at h
        · rename_i e2; cases h; exact fun t q => X.tableswitchOut hx (g := mkF m pc L (.int x :: List.map (va ρ) _)) rfl rfl hd e1 e2 t q
        · cases h
      · rename_i e1
        split at h
        · rename_i o e2
          split at h
          · rename_i e3; cases h; exact fun t q => X.tableswitchIn hx (g := mkF m pc L (.int x :: List.map (va ρ) _)) rfl rfl hd e1 e2 e3 t q
          · cases h
        · cases h
    · cases h
  obtain rfl := hn.resolve_left hsw
  unfold qstep at h
  split at h
  -- constants
  · cases h; exact fun t q => XS.iconst X.here hx rfl hd q
  · cases h; exact fun t q => XS.bipush X.here hx rfl hd q
  · cases h; exact fun t q => XS.sipush X.here hx rfl hd q
  · cases h; exact fun t q => XT.lconst X.here hx rfl hd q
  -- ints
  · split at h
    · cases h; exact fun t q => XS.iadd X.here hx rfl hd rfl q
    · cases h
  · split at h
    · cases h; exact fun t q => XS.isub X.here hx rfl hd rfl q
    · cases h
  · split at h
    · cases h; exact fun t q => XS.imul X.here hx rfl hd rfl q
    · cases h
  · split at h
    · cases h; exact fun t q => XS.iand X.here hx rfl hd rfl q
    · cases h
  · split at h
    · cases h; exact fun t q => XT.ior X.here hx rfl hd rfl q
    · cases h
  · split at h
    · cases h; exact fun t q => XT.ixor X.here hx rfl hd rfl q
    · cases h
  · split at h
    · cases h; exact fun t q => XT.ishl X.here hx rfl hd rfl q
    · cases h
  · split at h
    · cases h; exact fun t q => XT.ishr X.here hx rfl hd rfl q
    · cases h
  · split at h
    · cases h; exact fun t q => XT.iushr X.here hx rfl hd rfl q
    · cases h
  · split at h
    · split at h
      · cases h
      · rename_i e1; cases h; exact fun t q => XS.idiv X.here hx rfl hd rfl e1 q
    · cases h
  · split at h
    · split at h
      · cases h
      · rename_i e1; cases h; exact fun t q => iremM X hx rfl hd rfl e1 q
    · cases h
  · split at h
    · cases h; exact fun t q => XS.ineg X.here hx rfl hd rfl q
    · cases h
  -- longs
  · split at h
    · cases h; exact fun t q => XT.ladd X.here hx rfl hd rfl q
    · cases h
  · split at h
    · cases h; exact fun t q => XT.lsub X.here hx rfl hd rfl q
    · cases h
  · split at h
    · cases h; exact fun t q => XT.lmul X.here hx rfl hd rfl q
    · cases h
  · split at h
    · cases h; exact fun t q => XT.land X.here hx rfl hd rfl q
    · cases h
  · split at h
    · cases h; exact fun t q => XT.lor X.here hx rfl hd rfl q
    · cases h
  · split at h
    · cases h; exact fun t q => XT.lxor X.here hx rfl hd rfl q
    · cases h
  · split at h
    · cases h; exact fun t q => XT.lshl X.here hx rfl hd rfl q
    · cases h
  · split at h
    · cases h; exact fun t q => XT.lshr X.here hx rfl hd rfl q
    · cases h
  · split at h
    · cases h; exact fun t q => XT.lushr X.here hx rfl hd rfl q
    · cases h
  · split at h
    · split at h
      · cases h
      · rename_i e1; cases h; exact fun t q => XT.ldiv X.here hx rfl hd rfl e1 q
    · cases h
  · split at h
    · cases h; exact fun t q => XT.lneg X.here hx rfl hd rfl q
    · cases h
  · split at h
    · cases h; exact fun t q => XT.lcmp X.here hx rfl hd rfl q
    · cases h
  · split at h
    · cases h; exact fun t q => XT.i2l X.here hx rfl hd rfl q
    · cases h
  · split at h
    · cases h; exact fun t q => XT.l2i X.here hx rfl hd rfl q
    · cases h
  -- dup, pop
  · split at h
    · cases h; exact fun t q => XS.dup X.here hx rfl hd rfl rfl q
    · cases h; exact fun t q => XS.dup X.here hx rfl hd rfl rfl q
    · cases h
  · split at h
    · cases h; exact fun t q => XT.pop X.here hx rfl hd rfl rfl q
    · cases h; exact fun t q => XT.pop X.here hx rfl hd rfl rfl q
    · cases h
  -- jumps
  · split at h
    · rename_i e1; cases h; exact fun t q => XS.goto X.here hx rfl rfl hd e1 rfl q
    · cases h
  · split at h
    · split at h
      · rename_i e1; cases h
        intro t q
        rw [br_eq] at q
        split at q
        · rename_i e2; exact XS.ifYes X.here hx rfl rfl hd rfl (by rw [if0]; exact e2) e1 rfl q
        · rename_i e2; exact XS.ifNo X.here hx rfl hd rfl (by rw [if0]; simpa using e2) q
      · cases h
    · cases h
  · split at h
    · split at h
      · rename_i e1; cases h
        intro t q
        rw [br_eq] at q
        split at q
        · rename_i e2; exact XS.icmpYes X.here hx rfl rfl hd rfl e2 e1 rfl q
        · rename_i e2; exact XS.icmpNo X.here hx rfl hd rfl (by simpa using e2) q
      · cases h
    · cases h
  · exact absurd rfl hsw
  · cases h
theorem pstep_sound (X : Stand p l e R s m args below meth c T locs cells slots) (hx : p.tables.exec = Jvm.exec) {ρ : Nat → Nat} {i : Instr} {n pc pc' : Nat} {ls ls' : Lv} {st st' : List Value}
    (h : pstep i pc ls st = some (pc', ls', st')) (hd : decode c.code pc = .ok (i, n)) (hn : isSw i = true ∨ n = ilen i) {L : Array Slot} (hL : LR ρ ls L) :
    ∃ L', LR ρ ls' L' ∧ L'.size = L.size ∧ ∀ target, Steps p.tables e below (T.setTop (mkF m pc' L' (st'.map (va ρ)))) target → Steps p.tables e below (T.setTop (mkF m pc L (st.map (va ρ)))) target := by
  by_cases hsw : isSw i = true
  · cases i <;> first | exact absurd hsw Bool.false_ne_true | skip
    simp only [pstep] at h
    split at h
    · rename_i e1; cases h; exact ⟨L, hL, rfl, qstep_sound X hx e1 hd hn⟩
    · cases h
  obtain rfl := hn.resolve_left hsw
  unfold pstep at h
  split at h
  -- loads
  · split at h
    · rename_i e1; cases h; exact ⟨L, hL, rfl, fun t q => XS.iloadN X.here hx rfl hd (hL.2.1 _ _ e1) q⟩
    · cases h
  · split at h
    · rename_i e1; cases h; exact ⟨L, hL, rfl, fun t q => XS.iload X.here hx rfl hd (hL.2.1 _ _ e1) q⟩
    · cases h
  · split at h
    · rename_i e1; cases h; exact ⟨L, hL, rfl, fun t q => XT.lloadN X.here hx rfl hd (hL.2.1 _ _ e1) q⟩
    · cases h
  · split at h
    · rename_i e1; cases h; exact ⟨L, hL, rfl, fun t q => XT.lload X.here hx rfl hd (hL.2.1 _ _ e1) q⟩
    · cases h
  · split at h
    · rename_i e1; cases h; exact ⟨L, hL, rfl, fun t q => XS.aloadN X.here hx rfl hd (hL.2.1 _ _ e1) rfl q⟩
    · cases h
  · split at h
    · rename_i e1; cases h; exact ⟨L, hL, rfl, fun t q => XS.aload X.here hx rfl hd (hL.2.1 _ _ e1) rfl q⟩
    · cases h
  -- stores
  · split at h
    · split at h
      · rename_i e1; cases h
        obtain ⟨L', a1, a2, a3⟩ := store_ok hL (fun x => by simp) e1
        exact ⟨L', a2, a3, fun t q => XS.istoreN X.here hx rfl hd rfl a1 q⟩
      · cases h
    · cases h
  · split at h
    · split at h
      · rename_i e1; cases h
        obtain ⟨L', a1, a2, a3⟩ := store_ok hL (fun x => by simp) e1
        exact ⟨L', a2, a3, fun t q => XS.istore X.here hx rfl hd rfl a1 q⟩
      · cases h
    · cases h
  · split at h
    · split at h
      · rename_i e1; cases h
        obtain ⟨L', a1, a2, a3⟩ := store_ok hL (fun x => by simp) e1
        exact ⟨L', a2, a3, fun t q => XT.lstoreN X.here hx rfl hd rfl a1 q⟩
      · cases h
    · cases h
  · split at h
    · split at h
      · rename_i e1; cases h
        obtain ⟨L', a1, a2, a3⟩ := store_ok hL (fun x => by simp) e1
        exact ⟨L', a2, a3, fun t q => XT.lstore X.here hx rfl hd rfl a1 q⟩
      · cases h
    · cases h
  · split at h
    · split at h
      · rename_i e1; cases h
        obtain ⟨L', a1, a2, a3⟩ := store_ok hL (fun x => by simp) e1
        exact ⟨L', a2, a3, fun t q => XS.astoreN X.here hx rfl hd rfl rfl a1 q⟩
      · cases h
    · cases h
  · split at h
    · split at h
      · rename_i e1; cases h
        obtain ⟨L', a1, a2, a3⟩ := store_ok hL (fun x => by simp) e1
        exact ⟨L', a2, a3, fun t q => XS.astore X.here hx rfl hd rfl rfl a1 q⟩
      · cases h
    · cases h
  · split at h
    · rename_i e0
      split at h
      · rename_i e1; cases h
        obtain ⟨L', a1, a2, a3⟩ := store_ok hL (fun x => by simp) e1
        exact ⟨L', a2, a3, fun t q => XS.iinc X.here hx rfl hd (hL.2.1 _ _ e0) a1 q⟩
      · cases h
    · cases h
  · rename_i hq
    split at h
    · rename_i e1; cases h; exact ⟨L, hL, rfl, qstep_sound X hx e1 hd hn⟩
    · cases h
end Pure
/-! the class's own machine -/
def nd : List Value → Bool
  | [] => true
  | .double _ :: _ => false
  | _ :: r => nd r
theorem nd_spec {as : List Value} (h : nd as = true) : ∀ v ∈ as, ∀ x, v ≠ .double x := by
  induction as with
  | nil => intro v hv; cases hv
  | cons w r ih =>
    intro v hv x e
    rcases List.mem_cons.mp hv with q | q
    · subst q; subst e; cases h
    · refine ih ?_ v q x e
      cases w <;> first | exact h | cases h
def layA : List Value → Lv
  | [] => []
  | .long x :: r => some (.long x) :: none :: layA r
  | v :: r => some v :: layA r
def lay (as : List Value) (n : Nat) : Lv := layA as ++ List.replicate (n - (layA as).length) none
def cats (st : List Value) : Nat := (st.map fun v => v.category).sum
def tyOf : Nat → FieldType
  | 0 => .int
  | 1 => .boolean
  | _ => .long
def atOf : Nat → ArrayType
  | 0 => .int
  | 1 => .boolean
  | _ => .long
def retOf : Nat → Option FieldType
  | 0 => none
  | 1 => some .int
  | 2 => some .boolean
  | _ => some .long
def zs (al : List (Nat × Nat)) (c : Nat) : Nat := ((al.take c).map (·.2)).sum
abbrev Rs := Option (Option Value × St)
def cret (me : Me) (st : List Value) (i : Instr) : Option (Option Value) :=
  match i with
  | .ireturn => match st with
    | [.int x] => if me.rt = 1 then some (some (.int x)) else if me.rt = 2 then some (some (.int (x &&& 1))) else none
    | _ => none
  | .lreturn => match st with
    | [.long x] => if me.rt = 3 then some (some (.long x)) else none
    | _ => none
  | .return_ => match st with
    | [] => if me.rt = 0 then some none else none
    | _ => none
  | _ => none
def isRet : Instr → Bool
  | .ireturn => true
  | .lreturn => true
  | .return_ => true
  | _ => false
def gfld (P : Cl) (x : Nat) (c : Nat) (s : St) : Option Value :=
  match asc P.fx x with
  | none => none
  | some k => match asc P.fs k with
    | none => none
    | some fe => match fe.2.2.1 with
      | 0 => some (.int (gI s 0 k))
      | 1 => some (.int (gI s 0 k))
      | 2 => some (.long (gL s 0 k))
      | j + 3 => if j < c then some (.ref (j + 1)) else none
def pfld (P : Cl) (x : Nat) (ini : Bool) (v : Value) (s : St) : Option St :=
  match asc P.fx x with
  | none => none
  | some k => match asc P.fs k with
    | none => none
    | some fe => if fe.2.2.2 = true ∧ ini = false then none else
      match fe.2.2.1, v with
      | 0, .int z => some (sI s 0 k z)
      | 1, .int z => some (sI s 0 k (z &&& 1))
      | 2, .long z => some (sL s 0 k z)
      | _, _ => none
def newF (P : Cl) (t : ArrayType) (cd : Cd) (pc c : Nat) (st : List Value) : Bool :=
  match st with
  | [.int n, .ref 0] => match fetch cd (pc + 2) with
    | some (.putfield x, 3) => match asc P.fx x with
      | some k => match asc P.fs k with
        | some fe => match P.al[c]? with
          | some (tt, N) => decide (fe.2.2.1 = c + 3 ∧ t = atOf tt ∧ 0 ≤ n.toInt ∧ n.toInt = N ∧ N < 1000000)
          | none => false
        | none => false
      | none => false
    | _ => false
  | _ => false
def lda (P : Cl) (tt c : Nat) (st : List Value) (s : St) : Option (List Value) :=
  match st with
  | .int i :: .ref (a + 1) :: r => match P.al[a]? with
    | some (t2, N) => if t2 = tt ∧ a < c then (if inb N i then some ((if tt = 2 then .long (gL s (a + 1) (ix i)) else .int (gI s (a + 1) (ix i))) :: r) else none) else none
    | none => none
  | _ => none
def sta (P : Cl) (tt c : Nat) (st : List Value) (s : St) : Option (List Value × St) :=
  match st with
  | v :: .int i :: .ref (a + 1) :: r => match P.al[a]? with
    | some (t2, N) => if t2 = tt ∧ a < c then (if inb N i then (match tt, v with
        | 0, .int z => some (r, sI s (a + 1) (ix i) z)
        | 1, .int z => some (r, sI s (a + 1) (ix i) (z &&& 1))
        | 2, .long z => some (r, sL s (a + 1) (ix i) z)
        | _, _ => none) else none) else none
    | none => none
  | _ => none
def cstep {α : Type} (P : Cl) (mi : Nat) (me : Me) (rt : Option Value → St → Option α) (cl : Nat → Nat → List Value → St → Rs) (k : Nat → Nat → Lv → List Value → St → Option α) (i : Instr) (c pc : Nat) (ls : Lv) (st : List Value) (s : St) : Option α :=
  match i with
  | .getfield x => match st with
    | .ref 0 :: r => (match gfld P x c s with | some v => k c (pc + 3) ls (v :: r) s | none => none)
    | _ => none
  | .putfield x => match st with
    | v :: .ref 0 :: r => (match pfld P x (mi == 0) v s with | some s' => k c (pc + 3) ls r s' | none => none)
    | _ => none
  | .iaload => match lda P 0 c st s with | some st' => k c (pc + 1) ls st' s | none => none
  | .baload => match lda P 1 c st s with | some st' => k c (pc + 1) ls st' s | none => none
  | .laload => match lda P 2 c st s with | some st' => k c (pc + 1) ls st' s | none => none
  | .iastore => match sta P 0 c st s with | some (st', s') => k c (pc + 1) ls st' s' | none => none
  | .bastore => match sta P 1 c st s with | some (st', s') => k c (pc + 1) ls st' s' | none => none
  | .lastore => match sta P 2 c st s with | some (st', s') => k c (pc + 1) ls st' s' | none => none
  | .newarray t => if mi = 0 ∧ newF P t me.cd pc c st = true then k (c + 1) (pc + 5) ls [] s else none
  | .ldc x => match asc P.kx x with | some (.int z) => k c (pc + 2) ls (.int z :: st) s | _ => none
  | .ldc2_w x => match asc P.kx x with | some (.long z) => k c (pc + 3) ls (.long z :: st) s | _ => none
  | .invokespecial x => match st with
    | .ref 0 :: r => if x = P.oi ∧ 1 ≤ me.rf ∧ cats r + 12 ≤ me.rl then k c (pc + 3) ls r s else none
    | _ => none
  | .invokevirtual x => match asc P.mx x with
    | none => none
    | some m' => match asc P.ms m' with
      | none => none
      | some me' => match st.drop me'.na with
        | .ref 0 :: r => if m' ≠ 0 ∧ me'.rf + 1 ≤ me.rf ∧ cats r + (me'.ml + 11) + me'.rl ≤ me.rl ∧ nd (st.take me'.na) = true then
            (match cl m' c (.ref 0 :: (st.take me'.na).reverse) s with
             | some (none, s') => k c (pc + 3) ls r s'
             | some (some v, s') => k c (pc + 3) ls (v :: r) s'
             | none => none) else none
        | _ => none
  | i => if isRet i = true then (if mi = 0 ∧ c ≠ P.al.length then none else match cret me st i with | some v => rt v s | none => none)
    else match pstep i pc ls st with | some (pc', ls', st') => k c pc' ls' st' s | none => none
def cexec (P : Cl) : Nat → Nat → Me → Nat → Nat → Lv → List Value → St → Rs
  | 0, _, _, _, _, _, _, _ => none
  | f + 1, mi, me, c, pc, ls, st, s => match fetch me.cd pc with
    | none => none
    | some (i, _) => cstep P mi me (fun v s => some (v, s)) (fun m' c as s => match asc P.ms m' with | some me' => (if (layA as).length ≤ me'.ml then cexec P f m' me' c 0 (lay as me'.ml) [] s else none) | none => none) (cexec P f mi me) i c pc ls st s
def ccall (P : Cl) (f m' c : Nat) (as : List Value) (s : St) : Rs := match asc P.ms m' with | some me' => (if (layA as).length ≤ me'.ml then cexec P f m' me' c 0 (lay as me'.ml) [] s else none) | none => none
end Jvm.LM

namespace Jvm.LM
open Sem ClassFile Op Lib Jvm.Stand Jvm.Free Jvm.LawKit Jvm.RoadKit
/-! how the machine's state stands in the heap -/
theorem adr_ne (a j : Nat) : a + (j + 1) ≠ a := by omega
theorem adr_ne' (a j : Nat) : a ≠ a + (j + 1) := by omega
theorem adr_ne2 (a : Nat) {j k : Nat} (h : j ≠ k) : a + (j + 1) ≠ a + (k + 1) := by omega
def Fval (adr c : Nat) (s : St) (k : Nat) (fe : Fe) : Value :=
  match fe.2.2.1 with
  | 0 => .int (gI s 0 k)
  | 1 => .int (gI s 0 k)
  | 2 => .long (gL s 0 k)
  | j + 3 => if j < c then .ref (adr + (j + 1)) else .null
def elv (tt : Nat) (s : St) (j i : Nat) : Value := if tt = 2 then .long (gL s j i) else .int (gI s j i)
def ARep (Z : State) (h : Heap) (a tt N : Nat) (s : St) (j : Nat) : Prop :=
  ∃ cl : Cell, Arr Z h a cl (tyOf tt) ∧ cl.slots.size = N ∧ ∀ i, i < N → cl.slots[i]? = some (elv tt s j i)
def HRep (P : Cl) (Z : State) (h : Heap) (adr c : Nat) (s : St) : Prop :=
  Exa Z h adr P.nm ∧ (∀ k fe, asc P.fs k = some fe → Fld Z h adr P.nm fe.1 fe.2.1 (Fval adr c s k fe)) ∧
  (∀ (j tt N : Nat), P.al[j]? = some (tt, N) → j < c → ARep Z h (adr + (j + 1)) tt N s (j + 1)) ∧
  (∀ j i, c < j → gI s j i = 0 ∧ gL s j i = 0) ∧ c ≤ P.al.length
def fkTy (P : Cl) : Nat → FieldType
  | 0 => .int
  | 1 => .boolean
  | 2 => .long
  | j + 3 => .array (tyOf ((P.al[j]?.map (·.1)).getD 0))
def yOf (P : Cl) (me : Me) : MethodName := ⟨P.nm, me.nm, me.ds⟩
def LinkC (P : Cl) (Z : State) (a0 : Array Value) : Prop :=
  ((∃ nF, (Cond.instantiable P.nm nF).before a0 Z = true) ∧ (Cond.initialized P.nm).before a0 Z = true) ∧
  (∀ x k, asc P.fx x = some k → ∀ fe, asc P.fs k = some fe → (Cond.fieldLink P.nm x P.nm fe.1 fe.2.1).before a0 Z = true) ∧
  (∀ k fe, asc P.fs k = some fe → (if fe.2.2.2 = true then Cond.laysFinal P.nm P.nm fe.1 fe.2.1 else Cond.lays P.nm P.nm fe.1 fe.2.1).before a0 Z = true) ∧
  (∀ k fe, asc P.fs k = some fe → parseFieldDescriptor fe.2.1 = some (fkTy P fe.2.2.1)) ∧
  (∀ k k' fe fe', asc P.fs k = some fe → asc P.fs k' = some fe' → k ≠ k' → fe.1 ≠ fe'.1 ∧ (3 ≤ fe.2.2.1 → fe.2.2.1 ≠ fe'.2.2.1)) ∧
  (∀ (j tt N : Nat), P.al[j]? = some (tt, N) → tt ≤ 2 ∧ (Cond.arrayClass (tyOf tt)).before a0 Z = true) ∧
  (∀ x v, asc P.kx x = some v → match v with
    | .int z => (Cond.constant P.nm x z).before a0 Z = true
    | .long z => (Cond.constantLong P.nm x z).before a0 Z = true
    | _ => True) ∧
  ((Cond.methodLink P.nm P.oi Lib.objectInit).before a0 Z = true ∧ (Cond.instanceMethod Lib.objectInit).before a0 Z = true ∧ (Cond.code Lib.objectInit ⟨#[0xb1]⟩ 1 none).before a0 Z = true) ∧
  (∀ mi me, asc P.ms mi = some me → ∃ (bytes : ByteArray) (ps : List FieldType), (Cond.code (yOf P me) bytes me.ml (retOf me.rt)).before a0 Z = true ∧
    (∀ pc i n, fetch me.cd pc = some (i, n) → decode bytes pc = .ok (i, n) ∧ (isSw i = true ∨ n = ilen i)) ∧ parseMethodDescriptor me.ds = some ⟨ps, retOf me.rt⟩ ∧ ps.length = me.na) ∧
  (∀ x mi, asc P.mx x = some mi → ∀ me, asc P.ms mi = some me → (Cond.methodLink P.nm x (yOf P me)).before a0 Z = true ∧ (Cond.instanceMethod (yOf P me)).before a0 Z = true ∧
    ((Cond.privateMethod (yOf P me)).before a0 Z = true ∨ ((Cond.declares (yOf P me)).before a0 Z = true ∧ (Cond.selects P.nm (yOf P me) (yOf P me)).before a0 Z = true))) ∧
  plainName P.nm = true ∧ (P.nm ≠ "java/lang/invoke/MethodHandle" ∧ P.nm ≠ "java/lang/invoke/VarHandle") ∧ (∀ me, asc P.ms 0 = some me → me.nm = "<init>")
theorem gI_sI (s : St) (c j : Nat) (v : Int32) (a b : Nat) : gI (sI s c j v) a b = if a = c ∧ b = j then v else gI s a b := rfl
theorem gL_sI (s : St) (c j : Nat) (v : Int32) (a b : Nat) : gL (sI s c j v) a b = gL s a b := rfl
theorem gI_sL (s : St) (c j : Nat) (v : Int64) (a b : Nat) : gI (sL s c j v) a b = gI s a b := rfl
theorem gL_sL (s : St) (c j : Nat) (v : Int64) (a b : Nat) : gL (sL s c j v) a b = if a = c ∧ b = j then v else gL s a b := rfl
theorem laid_of {P : Cl} {Z : State} {a0 : Array Value} (LK : LinkC P Z a0) {k : Nat} {fe : Fe} (hk : asc P.fs k = some fe) : Laid Z a0 P.nm P.nm fe.1 fe.2.1 := by
  have q := LK.2.2.1 k fe hk
  split at q
  · exact Or.inr q
  · exact Or.inl q
/-- a heap that is alike where the object lies -/
theorem HRep.congr {P : Cl} {Z : State} {h h' : Heap} {adr c : Nat} {s : St} (H : HRep P Z h adr c s) (e : ∀ x, adr ≤ x → x < adr + 1 + P.al.length → h'[x]? = h[x]?) : HRep P Z h' adr c s := by
  obtain ⟨h1, h2, h3, h4, h5⟩ := H
  have ea : h'[adr]? = h[adr]? := e adr (Nat.le_refl _) (by omega)
  refine ⟨?_, fun k fe hk => ?_, fun j tt N hj hc => ?_, h4, h5⟩
  · obtain ⟨cell, k, q1, r⟩ := h1; exact ⟨cell, k, by rw [ea]; exact q1, r⟩
  · obtain ⟨cell, cf, k, i, f, q1, r⟩ := h2 k fe hk; exact ⟨cell, cf, k, i, f, by rw [ea]; exact q1, r⟩
  · obtain ⟨cl, ⟨q1, q2⟩, q3⟩ := h3 j tt N hj hc
    exact ⟨cl, ⟨by rw [e _ (by omega) (by omega)]; exact q1, q2⟩, q3⟩
theorem HRep.putFld {P : Cl} {Z : State} {a0 : Array Value} (LK : LinkC P Z a0) {h h' : Heap} {adr c k : Nat} {fe : Fe} {s s' : St} {v : Value} (H : HRep P Z h adr c s) (hk : asc P.fs k = some fe)
    (W : Wr h h' adr (RoadKit.slotOf Z P.nm fe.1 fe.2.1) v) (hv : v = Fval adr c s' k fe) (hI : ∀ a b, (a ≠ 0 ∨ b ≠ k) → gI s' a b = gI s a b ∧ gL s' a b = gL s a b) : HRep P Z h' adr c s' := by
  obtain ⟨h1, h2, h3, h4, h5⟩ := H
  refine ⟨h1.wr W, fun k2 fe2 hk2 => ?_, fun j tt N hj hc => ?_, fun j i hj => ?_, h5⟩
  · by_cases e : k2 = k
    · subst e; cases hk.symm.trans hk2
      rw [← hv]; exact (h2 _ _ hk).same W
    · have hne := (LK.2.2.2.2.1 _ _ _ _ hk2 hk e).1
      have q := (h2 _ _ hk2).other W (Or.inr (slot_ne (laid_of LK hk2) (laid_of LK hk) hne (LK.2.2.2.1 _ _ hk2) (LK.2.2.2.1 _ _ hk)))
      have e2 : Fval adr c s' k2 fe2 = Fval adr c s k2 fe2 := by
        have := hI 0 k2 (Or.inr e)
        simp only [Fval]; split <;> simp [this.1, this.2]
      rw [e2]; exact q
  · obtain ⟨cl, q1, q2, q3⟩ := h3 j tt N hj hc
    refine ⟨cl, q1.other W (adr_ne _ _), q2, fun i hi => ?_⟩
    have := hI (j + 1) i (Or.inl (by omega))
    rw [q3 i hi]; simp only [elv, this.1, this.2]
  · have := hI j i (Or.inl (by omega))
    rw [this.1, this.2]; exact h4 j i hj
theorem HRep.putArr {P : Cl} {Z : State} {h h' : Heap} {adr c a tt N n : Nat} {s s' : St} {v : Value} (H : HRep P Z h adr c s) (ha : P.al[a]? = some (tt, N)) (hac : a < c) (hn : n < N)
    (W : Wr h h' (adr + (a + 1)) n v) (hv : v = elv tt s' (a + 1) n) (hI : ∀ x y, (x ≠ a + 1 ∨ y ≠ n) → gI s' x y = gI s x y ∧ gL s' x y = gL s x y) : HRep P Z h' adr c s' := by
  obtain ⟨h1, h2, h3, h4, h5⟩ := H
  refine ⟨h1.wr W, fun k fe hk => ?_, fun j tt2 N2 hj hc => ?_, fun j i hj => ?_, h5⟩
  · have q := (h2 _ _ hk).other W (Or.inl (adr_ne' _ _))
    have e2 : Fval adr c s' k fe = Fval adr c s k fe := by
      have := hI 0 k (Or.inl (by omega))
      simp only [Fval]; split <;> simp [this.1, this.2]
    rw [e2]; exact q
  · obtain ⟨cl, q1, q2, q3⟩ := h3 j tt2 N2 hj hc
    by_cases e : j = a
    · subst e; cases ha.symm.trans hj
      refine ⟨cl.setSlot n v, q1.same W, by rw [sz_set]; exact q2, fun i hi => ?_⟩
      by_cases ei : i = n
      · subst ei; rw [← hv]; simp [Cell.setSlot, q2, hi]
      · have := hI (j + 1) i (Or.inr ei)
        have q4 := q3 i hi
        simp only [elv, this.1, this.2] at q4 ⊢
        simp only [Cell.setSlot]
        rw [Array.getElem?_setIfInBounds_ne (fun q => ei q.symm)]; exact q4
    · refine ⟨cl, q1.other W (adr_ne2 _ e), q2, fun i hi => ?_⟩
      have := hI (j + 1) i (Or.inl (by omega))
      rw [q3 i hi]; simp only [elv, this.1, this.2]
  · have := hI j i (Or.inl (by omega))
    rw [this.1, this.2]; exact h4 j i hj
theorem HRep.newArr {P : Cl} {Z : State} {a0 : Array Value} (LK : LinkC P Z a0) {h h1 h2 : Heap} {adr c k tt N : Nat} {fe : Fe} {s : St} {n : Int32} {cA : ClassId} (H : HRep P Z h adr c s) (hk : asc P.fs k = some fe) (hkd : fe.2.2.1 = c + 3)
    (ha : P.al[c]? = some (tt, N)) (hn0 : 0 ≤ n.toInt) (hn : n.toInt = N) (hsz : h.size = adr + 1 + c) (E : Ext h h1) (A : Arr Z h1 h.size (newA cA (tyOf tt) n) (tyOf tt)) (W : Wr h1 h2 adr (RoadKit.slotOf Z P.nm fe.1 fe.2.1) (.ref h.size)) : HRep P Z h2 adr (c + 1) s := by
  obtain ⟨g1, g2, g3, g4, g5⟩ := H
  have hc : c < P.al.length := (List.getElem?_eq_some_iff.mp ha).1
  have hNn : n.toNatClampNeg = N := by simp only [Int32.toNatClampNeg]; omega
  have htt := (LK.2.2.2.2.2.1 _ _ _ ha).1
  refine ⟨(g1.ext E).wr W, fun k2 fe2 hk2 => ?_, fun j tt2 N2 hj hjc => ?_, fun j i hj => g4 j i (by omega), hc⟩
  · by_cases e : k2 = k
    · subst e; cases hk.symm.trans hk2
      have q := ((g2 _ _ hk).ext E).same W
      have e2 : Fval adr (c + 1) s k2 fe = .ref h.size := by simp only [Fval, hkd]; rw [if_pos (Nat.lt_succ_self c), hsz]; exact congrArg Value.ref (show adr + (c + 1) = adr + 1 + c by omega)
      rw [e2]; exact q
    · have hne := LK.2.2.2.2.1 _ _ _ _ hk2 hk e
      have q := ((g2 _ _ hk2).ext E).other W (Or.inr (slot_ne (laid_of LK hk2) (laid_of LK hk) hne.1 (LK.2.2.2.1 _ _ hk2) (LK.2.2.2.1 _ _ hk)))
      have e2 : Fval adr (c + 1) s k2 fe2 = Fval adr c s k2 fe2 := by
        simp only [Fval]; split
        · rfl
        · rfl
        · rfl
        · rename_i j hj
          have : j ≠ c := fun q => (hne.2 (by rw [hj]; omega)) (by rw [hj, hkd, q])
          by_cases b : j < c
          · rw [if_pos b, if_pos (by omega)]
          · rw [if_neg b, if_neg (by omega)]
      rw [e2]; exact q
  · by_cases e : j = c
    · subst e; cases ha.symm.trans hj
      have hA : Arr Z h2 h.size (newA cA (tyOf tt) n) (tyOf tt) := A.other W (show h.size ≠ adr by omega)
      refine ⟨newA cA (tyOf tt) n, by rw [show adr + (j + 1) = h.size by omega]; exact hA, by rw [sz_new]; exact hNn, fun i hi => ?_⟩
      have z := g4 (j + 1) i (by omega)
      simp only [newA, hNn, elv, z.1, z.2]
      rw [Array.getElem?_replicate, if_pos hi]
      have : tt = 0 ∨ tt = 1 ∨ tt = 2 := by omega
      rcases this with rfl | rfl | rfl <;> rfl
    · obtain ⟨cl, q1, q2, q3⟩ := g3 j tt2 N2 hj (by omega)
      exact ⟨cl, (q1.ext E).other W (adr_ne _ _), q2, q3⟩
/-- outside the object nothing moves -/
def Kp (h0 h : Heap) (adr n : Nat) : Prop := ∀ x, (x < adr ∨ adr + 1 + n ≤ x) → h[x]? = h0[x]?
theorem Kp.wr {h0 h h' : Heap} {adr n a sl : Nat} {v : Value} (K : Kp h0 h adr n) (W : Wr h h' a sl v) (h1 : adr ≤ a) (h2 : a < adr + 1 + n) : Kp h0 h' adr n := fun x hx => by
  obtain ⟨cell, q1, q2, q3, rfl⟩ := W
  rw [Array.getElem?_setIfInBounds_ne (by omega)]; exact K x hx
theorem Kp.ext {h0 h h' : Heap} {adr n : Nat} (K : Kp h0 h adr n) (E : Ext h h') (h1 : h'.size ≤ adr + 1 + n) (h2 : adr ≤ h.size) : Kp h0 h' adr n := fun x hx => by
  rw [← K x hx]
  by_cases b : x < h.size
  · obtain ⟨c, hc⟩ : ∃ c, h[x]? = some c := ⟨h[x], Array.getElem?_eq_getElem b⟩
    rw [hc]; exact E.2 _ _ hc
  · rw [Array.getElem?_eq_none (by omega), Array.getElem?_eq_none (by omega)]
theorem Kp.trans {h0 h h' : Heap} {adr n : Nat} (K : Kp h0 h adr n) (K' : Kp h h' adr n) : Kp h0 h' adr n := fun x hx => (K' x hx).trans (K x hx)
def cRoom (P : Cl) (mi : Nat) (me : Me) : Room := { frames := me.rf, cells := if mi = 0 then P.al.length else 0, slots := if mi = 0 then zs P.al P.al.length else 0, locals := me.rl }
def QC (P : Cl) (Z : State) (n0 adr mi c : Nat) (w : Option Value) (s' : St) (h0 : Heap) (v : Option Value) (h : Heap) (L : List Loc) : Prop :=
  (v = w ∧ ∀ ρ, v.toList.map (va ρ) = v.toList) ∧ Fr n0 L ∧ HRep P Z h adr (if mi = 0 then P.al.length else c) s' ∧ Kp h0 h adr P.al.length ∧ h.size = (if mi = 0 then adr + 1 + P.al.length else h0.size)
/-- the run from S ends, and so -/
def Don (p : Program) (e : Env) (below : List Frame) (s₀ : State) (rm : Room) (Q : Option Value → Heap → List Loc → Prop) (S : State) : Prop :=
  ∃ s₂ o, Steps p.tables e below S s₂ ∧ s₂.status = .running ∧ Ended s₂ below o ∧ ∃ v L, o = .returned v ∧ Q v s₂.heap L ∧ FrameEnd s₀ o s₂ L rm.cells rm.slots
theorem Don.step {p : Program} {e : Env} {below : List Frame} {s₀ : State} {rm : Room} {Q : Option Value → Heap → List Loc → Prop} {S S' : State} (h : ∀ t, Steps p.tables e below S' t → Steps p.tables e below S t) (D : Don p e below s₀ rm Q S') : Don p e below s₀ rm Q S := by
  obtain ⟨s₂, o, h1, h2⟩ := D; exact ⟨s₂, o, h _ h1, h2⟩
def Inv (P : Cl) (Z : State) (n0 adr mi c : Nat) (s : St) (h0 h : Heap) (locs : List Loc) : Prop :=
  HRep P Z h adr c s ∧ Fr n0 locs ∧ Kp h0 h adr P.al.length ∧ h.size = (if mi = 0 then adr + 1 + c else h0.size)
def co (mi c : Nat) : Nat := if mi = 0 then c else 0
def zo (P : Cl) (mi c : Nat) : Nat := if mi = 0 then zs P.al c else 0
/-- what the walk of a body is to show, at a given fuel -/
def CW (P : Cl) (Z : State) (n0 adr f mi : Nat) (me : Me) : Prop :=
  ∀ (p : Program) (l : Launch) (e : Env) (s₀ : State) (m : MethodId) (args : Array Value) (below : List Frame) (meth : Method) (cd : Code) (T : State) (locs : List Loc) (h0 : Heap) (c pc : Nat) (ls : Lv) (st : List Value) (s : St) (v : Option Value) (s' : St) (L : Array Slot),
    p.tables.exec = Jvm.exec → Z.Warmed39 s₀.vm → s₀.vm.findClass P.nm = some m.cls → meth.name = me.nm → meth.sig.returnType = retOf me.rt → cd.maxLocals = me.ml → meth.locks = false → (mi = 0 → s₀.heap.size = adr + 1) →
    (∀ pc i n, fetch me.cd pc = some (i, n) → decode cd.code pc = .ok (i, n) ∧ (isSw i = true ∨ n = ilen i)) →
    cexec P f mi me c pc ls st s = some (v, s') →
    Stand p l e (cRoom P mi me) s₀ m args below meth cd T locs (co mi c) (zo P mi c) →
    Inv P Z n0 adr mi c s h0 T.heap locs → LR (adr + ·) ls L → ls.length = me.ml →
    Don p e below s₀ (cRoom P mi me) (QC P Z n0 adr mi c v s' h0) (T.setTop (mkF m pc L (st.map (va (adr + ·)))))
theorem zs_mono (al : List (Nat × Nat)) {a b : Nat} (h : a ≤ b) : zs al a ≤ zs al b := by
  obtain ⟨d, rfl⟩ := Nat.le.dest h
  simp only [zs]
  rw [List.take_add, List.map_append, List.sum_append]; omega
theorem zs_succ (al : List (Nat × Nat)) {c tt N : Nat} (h : al[c]? = some (tt, N)) : zs al (c + 1) = zs al c + N := by
  simp only [zs, List.take_add_one, h]; simp
theorem zs_le (al : List (Nat × Nat)) (a : Nat) : zs al a ≤ zs al al.length := by
  by_cases h : a ≤ al.length
  · exact zs_mono al h
  · simp only [zs]; rw [List.take_of_length_le (by omega), List.take_of_length_le (Nat.le_refl _)]
    exact Nat.le_refl _
theorem narrow_I (z : Int32) : narrow .int (.int z) = .int z := rfl
theorem inb_not {n : Nat} {i : Int32} (h : inb n i) : ¬ (i < 0 ∨ n ≤ i.toNatClampNeg) := by
  intro q
  simp only [Int32.lt_iff_toInt_lt, Int32.toNatClampNeg, Int32.reduceToInt] at q
  have := h.1; have := h.2
  omega
theorem inb_ix {n : Nat} {i : Int32} (h : inb n i) : ix i < n := by
  have := h.1; have := h.2
  simp only [ix, Int32.toNatClampNeg]; omega
end Jvm.LM

namespace Jvm.LM
open Sem ClassFile Op Lib Jvm.Stand Jvm.Free Jvm.LawKit Jvm.RoadKit
/-! entering a method -/
def slA : List Value → List Slot
  | [] => []
  | v :: r => if v.category = 2 then .val v :: .second :: slA r else .val v :: slA r
theorem foldl_slA (as : List Value) (acc : Array Slot) : as.foldl (fun acc v => if v.category = 2 then (acc.push (.val v)).push .second else acc.push (.val v)) acc = acc ++ (slA as).toArray := by
  induction as generalizing acc with
  | nil => simp [slA]
  | cons v r ih =>
    rw [List.foldl_cons, ih]
    simp only [slA]
    split <;> simp
theorem al_eq (args : Array Value) (n : Nat) : argsToLocals args n = (let filled := args.foldl (init := #[]) fun acc v => if v.category = 2 then (acc.push (.val v)).push .second else acc.push (.val v); filled ++ Array.replicate (n - filled.size) .unset) := rfl
theorem atl_eq (as : List Value) (n : Nat) : argsToLocals as.toArray n = (slA as ++ List.replicate (n - (slA as).length) Slot.unset).toArray := by
  rw [al_eq]
  have : Array.foldl (fun acc v => if v.category = 2 then (acc.push (Slot.val v)).push .second else acc.push (.val v)) #[] as.toArray = (slA as).toArray := by
    rw [List.foldl_toArray, foldl_slA]; simp
  simp only [this]
  simp
theorem wfl_one {x : Slot} {l : List Slot} (h : WFf (fun k => l[k]?)) (hx : x ≠ .second) (hc : ∀ v, x = .val v → v.category ≠ 2) : WFf (fun k => (x :: l)[k]?) := by
  obtain ⟨h1, h2, h3⟩ := h
  refine ⟨fun k v hk hv => ?_, fun k hk => ?_, ?_⟩
  · cases k with
    | zero => simp at hk; exact absurd hv (hc v hk)
    | succ k => simp at hk ⊢; exact h1 k v hk hv
  · cases k with
    | zero => simp at hk; exact absurd (by simpa using hk) h3
    | succ k => simp at hk ⊢; exact h2 k (by simpa using hk)
  · simpa using hx
theorem wfl_two {v : Value} {l : List Slot} (h : WFf (fun k => l[k]?)) (hc : v.category = 2) : WFf (fun k => (Slot.val v :: .second :: l)[k]?) := by
  obtain ⟨h1, h2, h3⟩ := h
  refine ⟨fun k w hk hv => ?_, fun k hk => ?_, by simp⟩
  · match k with
    | 0 => simp
    | 1 => simp at hk
    | k + 2 => simp at hk ⊢; exact h1 k w hk hv
  · match k with
    | 0 => exact ⟨v, by simp, hc⟩
    | 1 => exact absurd (by simpa using hk) h3
    | k + 2 => simp at hk ⊢; exact h2 k (by simpa using hk)
theorem wfl_rep (n : Nat) : WFf (fun k => (List.replicate n Slot.unset)[k]?) := by
  refine ⟨fun k v hk _ => ?_, fun k hk => ?_, ?_⟩
  · simp [List.getElem?_replicate] at hk
  · simp [List.getElem?_replicate] at hk
  · simp [List.getElem?_replicate]
theorem wfl_slA (as : List Value) (r : List Slot) (h : WFf (fun k => r[k]?)) : WFf (fun k => (slA as ++ r)[k]?) := by
  induction as with
  | nil => simpa [slA] using h
  | cons v t ih =>
    simp only [slA]
    split
    · rename_i hc; exact wfl_two ih hc
    · rename_i hc; exact wfl_one ih (by simp) (fun w hw => by cases hw; exact hc)
theorem slA_len (ρ : Nat → Nat) (as : List Value) (hd : ∀ v ∈ as, ∀ x, v ≠ .double x) : (slA (as.map (va ρ))).length = (layA as).length := by
  induction as with
  | nil => rfl
  | cons v t ih =>
    have ih := ih fun w hw => hd w (List.mem_cons_of_mem _ hw)
    cases v <;> simp [slA, layA, va, Value.category, ih]
    exact absurd rfl (hd _ (List.mem_cons_self ..) _)
theorem layA_get {ρ : Nat → Nat} {as : List Value} (hd : ∀ v ∈ as, ∀ x, v ≠ .double x) {k : Nat} {w : Value} (h : (layA as)[k]? = some (some w)) : (slA (as.map (va ρ)))[k]? = some (.val (va ρ w)) := by
  induction as generalizing k with
  | nil => simp [layA] at h
  | cons v t ih =>
    have ih' := fun {k} => ih (k := k) fun w hw => hd w (List.mem_cons_of_mem _ hw)
    cases v
    case long x =>
      simp only [layA] at h
      match k with
      | 0 => simp at h; subst h; simp [slA, va, Value.category]
      | 1 => simp at h
      | k + 2 => simp at h; simpa [slA, va, Value.category] using ih' h
    case double x => exact absurd rfl (hd _ (List.mem_cons_self ..) _)
    all_goals
      simp only [layA] at h
      match k with
      | 0 => simp at h; subst h; simp [slA, va, Value.category]
      | k + 1 => simp at h; simpa [slA, va, Value.category] using ih' h
theorem lay_LR {ρ : Nat → Nat} {as : List Value} (hd : ∀ v ∈ as, ∀ x, v ≠ .double x) {n : Nat} (hn : (layA as).length ≤ n) : LR ρ (lay as n) (argsToLocals (as.map (va ρ)).toArray n) := by
  rw [atl_eq]
  have hl := slA_len ρ as hd
  refine ⟨by simp [lay, hl], fun k w hk => ?_, ?_⟩
  · simp only [lay] at hk
    rw [List.getElem?_append] at hk
    split at hk
    · have := layA_get (ρ := ρ) hd hk
      rw [List.getElem?_toArray, List.getElem?_append_left (by omega)]; exact this
    · simp [List.getElem?_replicate] at hk
  · have := wfl_slA (as.map (va ρ)) (List.replicate (n - (slA (as.map (va ρ))).length) Slot.unset) (wfl_rep _)
    have q : WFf (fun k => ((slA (as.map (va ρ)) ++ List.replicate (n - (slA (as.map (va ρ))).length) Slot.unset).toArray)[k]?) := by
      simpa using this
    exact q
theorem lay_len {as : List Value} {n : Nat} (hn : (layA as).length ≤ n) : (lay as n).length = n := by simp [lay]; omega
section Call
variable {p : Program} {l : Launch} {e : Env} {R : Room} {s : State} {m : MethodId} {args : Array Value} {below : List Frame} {meth : Method} {c : Code} {T : State} {locs : List Loc} {cells slots : Nat}
/-- a private method of a class that is no interface -/
theorem privCall (X : Stand p l e R s m args below meth c T locs cells slots) (hexec : p.tables.exec = Jvm.exec) {own : String} {index : Nat} {y : MethodName} {bytes : ByteArray} {maxL nF : Nat} {ret : Option FieldType}
    (hown : s.vm.findClass own = some m.cls) (hlink : (Cond.methodLink own index y).before args s = true) (hinst : (Cond.instanceMethod y).before args s = true) (hi : (Cond.instantiable y.cls nF).before args s = true)
    (hpriv : s.PrivateAt y) (hcode : (Cond.code y bytes maxL ret).before args s = true) (hy : y.cls ≠ "java/lang/invoke/MethodHandle" ∧ y.cls ≠ "java/lang/invoke/VarHandle")
    {W : Nat} {Pre : Free.Pt → Array Value → Prop} {Post : Free.Pt → Array Value → Option Value → Free.Pt → Prop} (hK : Free.Back l R p e below s args y 3 W Pre Post)
    {g : JFrame} (hg : g.method = m) (hsize : g.locals.size = c.maxLocals) {a : Addr} {cell : Cell} (hcell : T.heap[a]? = some cell) (hobj : ∀ q, cell.vm ≠ .statics q)
    {argsL rest : List Value} (hlen : ∀ sig, parseMethodDescriptor y.desc = some sig → argsL.length = sig.parameters.length)
    (hstack : g.stack = argsL.reverse ++ .ref a :: rest) (hW : 2 * g.monitorRoom + (rest.map fun v => v.category).sum ≤ W) (hdg : decode c.code g.pc = .ok (.invokevirtual index, 3))
    (hpre : ∀ vm₁, s.WarmedH vm₁ → Pre ⟨T.setVm vm₁, locs, cells, slots⟩ (.ref a :: argsL).toArray) :
    ∃ (v : Option Value) (vm₁ : Vm) (B : Free.Pt), s.WarmedH vm₁ ∧ Stand p l e R s m args below meth c B.U B.locs B.cells B.slots ∧ Post ⟨T.setVm vm₁, locs, cells, slots⟩ (.ref a :: argsL).toArray v B ∧
      Steps p.tables e below (T.setTop g) (B.U.setTop { g with pc := g.pc + 3, stack := v.toList ++ rest }) := by
  obtain ⟨mk, mM, hnamed, hmM, hst, hab⟩ := Cond.instanceMethod_spec hinst
  obtain ⟨mM', cM, hmM', -, -, -, -, -, -, hsig⟩ := Cond.code_spec hnamed hcode
  cases hmM.symm.trans hmM'
  obtain ⟨cc, kk, i1, i2, -, i4, -⟩ := Cond.instantiable_spec hi
  cases (findClass_of_methodNamed hnamed).symm.trans i1
  have hni : kk.isInterface = false := by
    cases q : kk.isInterface
    · rfl
    · rw [q] at i4; simp at i4
  have hsel : selectMethod e.platform s.vm cell.cls mk = .method mk := selectMethod_private hmM (hpriv mk mM hnamed hmM)
  obtain ⟨vm₁, X₁, hstep⟩ := X.invokevirtual hexec hown hlink hnamed hmM hst i2 hni hy hcell hobj hsel hmM hab i2 hni (g := g) hg (hlen _ hsig) hstack hdg
  obtain ⟨v, B, X', hpost, hs⟩ := hK m meth c ⟨T.setVm vm₁, locs, cells, slots⟩ { g with stack := rest } (.invokevirtual index) mk (.ref a :: argsL).toArray X₁ hg hsize hdg hW (X₁.named hnamed) (hpre vm₁ X₁.warmed)
  exact ⟨v, vm₁, B, X₁.warmed, X', hpost, hstep _ fun acts => by rw [doInvoke_state]; exact hs⟩
end Call
theorem cats_va (ρ : Nat → Nat) (st : List Value) : ((st.map (va ρ)).map fun v => v.category).sum = cats st := by
  simp only [cats, List.map_map]; congr 1; exact List.map_congr_left fun v _ => cat_va ρ v
/-- what a method of the class keeps, as a contract, from its walk -/
theorem met_of_CW {P : Cl} {Z : State} {a0 : Array Value} (LK : LinkC P Z a0) {n0 adr f mi : Nat} {me : Me} (hme : asc P.ms mi = some me) (hW : CW P Z n0 adr f mi me) (l : Launch) {bytes : ByteArray}
    (hdec : ∀ pc i n, fetch me.cd pc = some (i, n) → decode bytes pc = .ok (i, n) ∧ (isSw i = true ∨ n = ilen i))
    {as : List Value} (hd : ∀ v ∈ as, ∀ x, v ≠ .double x) (hlen : (layA as).length ≤ me.ml) {c : Nat} {s s' : St} {v : Option Value} {h : Heap} (hr : cexec P f mi me c 0 (lay as me.ml) [] s = some (v, s')) (hc : mi = 0 → c = 0)
    (H : HRep P Z h adr c s) (hsz : mi = 0 → h.size = adr + 1) :
    MetFree l (yOf P me) (head1 [Cond.code (yOf P me) bytes me.ml (retOf me.rt)] (cRoom P mi me)) (fun a U => a = (as.map (va (adr + ·))).toArray ∧ Z.Warmed39 U.vm ∧ U.heap = h) (fun _ _ _ _ _ => True)
      (fun _ U o U' => ∃ w L, o = .returned w ∧ QC P Z n0 adr mi c v s' h w U'.heap L ∧ FrameEnd U o U' L (cRoom P mi me).cells (cRoom P mi me).slots) := by
  refine MetFree.of_bodySF (plainFor_of_name LK.2.2.2.2.2.2.2.2.2.2.1) hisR ?_
  intro p e s₀ m args below meth cd s₁ Bd hml hP hK
  obtain ⟨rfl, hZ, hh⟩ := hP
  have e0 : s₁.heap = h := by rw [← hh, Bd.state]; rfl
  have X0 : Stand p l e (cRoom P mi me) s₀ m _ below meth cd s₁ [] 0 0 := Stand.of_body Bd
  have hown : s₀.vm.findClass P.nm = some m.cls := findClass_of_methodNamed Bd.named
  have hnm : meth.name = me.nm := (name_of_methodNamed Bd.named Bd.method).1
  have hk0 : co mi c = 0 := by simp only [co]; split; · rename_i q; exact hc q
                               · rfl
  have hz0 : zo P mi c = 0 := by
    simp only [zo]; split
    · rename_i q; rw [hc q]; simp [zs]
    · rfl
  have D := hW p l e s₀ m _ below meth cd s₁ [] h c 0 (lay as me.ml) [] s v s' _ Bd.exec hZ hown hnm Bd.returns hml Bd.notSynchronized (fun q => by rw [hh]; exact hsz q)
    (fun pc i n q => by rw [Bd.bytes]; exact hdec pc i n q) hr (by rw [hk0, hz0]; exact X0)
    ⟨by rw [e0]; exact H, Fr.nil n0, by rw [e0]; exact fun x _ => rfl, by
      rw [e0]; split
      · rename_i q; rw [hsz q, hc q]
      · rfl⟩ (lay_LR hd hlen) (lay_len hlen)
  obtain ⟨s₂, o, a1, a2, a3, w, L, a4, a5, a6⟩ := D
  exact ⟨s₂, o, a1, a2, a3, w, L, a4, a5, a6⟩
end Jvm.LM

namespace Jvm.LM
open Sem ClassFile Op Lib Jvm.Stand Jvm.Free Jvm.LawKit Jvm.RoadKit
section Steps
variable {p : Program} {l : Launch} {e : Env} {R : Room} {s₀ : State} {m : MethodId} {args : Array Value} {below : List Frame} {meth : Method} {cd : Code} {T : State} {locs : List Loc} {cells slots : Nat}
variable {P : Cl} {Z : State} {a0 : Array Value} {n0 adr c mi : Nat} {s s' : St} {h0 : Heap}
theorem gfld_val {x : Nat} {w : Value} (hg : gfld P x c s = some w) : ∃ k fe, asc P.fx x = some k ∧ asc P.fs k = some fe ∧ Fval adr c s k fe = va (adr + ·) w := by
  unfold gfld at hg
  split at hg
  · cases hg
  · rename_i k e1
    split at hg
    · cases hg
    · rename_i fe e2
      refine ⟨k, fe, e1, e2, ?_⟩
      simp only [Fval]
      split at hg
      · rename_i e3; cases hg; first | rfl | (rw [e3]; rfl)
      · rename_i e3; cases hg; first | rfl | (rw [e3]; rfl)
      · rename_i e3; cases hg; first | rfl | (rw [e3]; rfl)
      · rename_i j e3
        split at hg
        · rename_i e4; cases hg; first | (simp only [if_pos e4]; rfl) | (rw [e3]; simp only [if_pos e4]; rfl)
        · cases hg
theorem st_get (LK : LinkC P Z a0) (X : Stand p l e R s₀ m args below meth cd T locs cells slots) (hx : p.tables.exec = Jvm.exec) (hZ : Z.Warmed39 s₀.vm) (hown : s₀.vm.findClass P.nm = some m.cls) (H : HRep P Z T.heap adr c s) {x pc : Nat} {w : Value} (hg : gfld P x c s = some w)
    (hd : decode cd.code pc = .ok (.getfield x, 3)) {L : Array Slot} {r : List Value} :
    ∃ T', Stand p l e R s₀ m args below meth cd T' locs cells slots ∧ T'.heap = T.heap ∧ ∀ t, Steps p.tables e below (T'.setTop (mkF m (pc + 3) L (va (adr + ·) w :: r))) t → Steps p.tables e below (T.setTop (mkF m pc L (.ref adr :: r))) t := by
  obtain ⟨k, fe, e1, e2, e3⟩ := gfld_val (adr := adr) hg
  have F := H.2.1 k fe e2
  rw [e3] at F
  exact getF X hx hZ hown (host := "") (Or.inl (LK.2.1 _ _ e1 _ e2)) Via.refl rfl F (g := mkF m pc L (.ref adr :: r)) rfl rfl hd
theorem st_put (LK : LinkC P Z a0) (X : Stand p l e R s₀ m args below meth cd T locs cells slots) (hx : p.tables.exec = Jvm.exec) (hZ : Z.Warmed39 s₀.vm) (hown : s₀.vm.findClass P.nm = some m.cls) (hna : n0 ≤ adr) (I : Inv P Z n0 adr mi c s h0 T.heap locs) {x pc : Nat} {w : Value} {ini : Bool} (hini : ini = true → meth.name = "<init>") (hg : pfld P x ini w s = some s')
    (hd : decode cd.code pc = .ok (.putfield x, 3)) {L : Array Slot} {r : List Value} :
    ∃ T' locs', Stand p l e R s₀ m args below meth cd T' locs' cells slots ∧ Inv P Z n0 adr mi c s' h0 T'.heap locs' ∧ ∀ t, Steps p.tables e below (T'.setTop (mkF m (pc + 3) L r)) t → Steps p.tables e below (T.setTop (mkF m pc L (w :: .ref adr :: r))) t := by
  obtain ⟨H, hFr, hK, hS⟩ := I
  obtain ⟨nF, hnF⟩ := LK.1.1
  unfold pfld at hg
  split at hg
  · cases hg
  · rename_i k e1
    split at hg
    · cases hg
    · rename_i fe e2
      split at hg
      · cases hg
      · rename_i e3
        have hL : (Cond.lays P.nm P.nm fe.1 fe.2.1).before a0 Z = true ∨ ((Cond.laysFinal P.nm P.nm fe.1 fe.2.1).before a0 Z = true ∧ P.nm = P.nm ∧ meth.name = "<init>") := by
          have q := LK.2.2.1 k fe e2
          split at q
          · rename_i e4
            refine Or.inr ⟨q, rfl, hini ?_⟩
            cases ini
            · exact absurd ⟨e4, rfl⟩ e3
            · rfl
          · exact Or.inl q
        have hp := LK.2.2.2.1 k fe e2
        have fin : ∀ {T' : State} {h' : Heap} {v' : Value}, Stand p l e R s₀ m args below meth cd T' (locs ++ [⟨adr, RoadKit.slotOf Z P.nm fe.1 fe.2.1⟩]) cells slots → T'.heap = h' → Wr T.heap h' adr (RoadKit.slotOf Z P.nm fe.1 fe.2.1) v' → v' = Fval adr c s' k fe →
            (∀ a b, (a ≠ 0 ∨ b ≠ k) → gI s' a b = gI s a b ∧ gL s' a b = gL s a b) → Inv P Z n0 adr mi c s' h0 T'.heap (locs ++ [⟨adr, RoadKit.slotOf Z P.nm fe.1 fe.2.1⟩]) := fun {T' h' v'} X' e4 W e5 e6 => by
          rw [e4]
          exact ⟨H.putFld LK e2 W e5 e6, Fr.snoc X' hFr hna, hK.wr W (Nat.le_refl _) (by omega), by rw [W.size]; exact hS⟩
        split at hg
        · rename_i z e4
          cases hg
          rw [e4] at hp
          obtain ⟨T', h', X', q1, W, st⟩ := putF X hx hZ hown (host := "") (Or.inl (LK.2.1 _ _ e1 _ e2)) Via.refl rfl (H.2.1 k fe e2) H.1 hL hnF hp (narrow_I z) rfl (g := mkF m pc L (.int z :: .ref adr :: r)) rfl rfl hd
          refine ⟨T', _, X', fin X' q1 W (by simp only [Fval, e4]; simp [gI_sI]) (fun a b hab => ?_), st⟩
          rw [gI_sI, gL_sI, if_neg (by omega)]; exact ⟨rfl, rfl⟩
        · rename_i z e4
          cases hg
          rw [e4] at hp
          obtain ⟨T', h', X', q1, W, st⟩ := putFN X hx hZ hown (LK.2.1 _ _ e1 _ e2) Via.refl rfl (H.2.1 k fe e2) H.1 hL hnF (v' := .int (z &&& 1)) hp rfl (fits_nar_bool z) (g := mkF m pc L (.int z :: .ref adr :: r)) rfl rfl hd
          refine ⟨T', _, X', fin X' q1 W (by simp only [Fval, e4]; simp [gI_sI]) (fun a b hab => ?_), st⟩
          rw [gI_sI, gL_sI, if_neg (by omega)]; exact ⟨rfl, rfl⟩
        · rename_i z e4
          cases hg
          rw [e4] at hp
          obtain ⟨T', h', X', q1, W, st⟩ := putF X hx hZ hown (host := "") (Or.inl (LK.2.1 _ _ e1 _ e2)) Via.refl rfl (H.2.1 k fe e2) H.1 hL hnF hp rfl rfl (g := mkF m pc L (.long z :: .ref adr :: r)) rfl rfl hd
          refine ⟨T', _, X', fin X' q1 W (by simp only [Fval, e4]; simp [gL_sL]) (fun a b hab => ?_), st⟩
          rw [gL_sL, gI_sL, if_neg (by omega)]; exact ⟨rfl, rfl⟩
        · cases hg
theorem lda_spec {tt : Nat} {st st' : List Value} (hl : lda P tt c st s = some st') : ∃ i a r N, st = .int i :: .ref (a + 1) :: r ∧ P.al[a]? = some (tt, N) ∧ a < c ∧ inb N i ∧ st' = elv tt s (a + 1) (ix i) :: r := by
  unfold lda at hl
  split at hl
  · rename_i i a r
    split at hl
    · rename_i t2 N e1
      split at hl
      · rename_i e2
        obtain ⟨rfl, e3⟩ := e2
        split at hl
        · rename_i e4; cases hl; exact ⟨i, a, r, N, rfl, e1, e3, e4, rfl⟩
        · cases hl
      · cases hl
    · cases hl
  · cases hl
theorem va_elv (ρ : Nat → Nat) (tt : Nat) (s : St) (j i : Nat) : va ρ (elv tt s j i) = elv tt s j i := by unfold elv; split <;> rfl
theorem st_lda (X : Stand p l e R s₀ m args below meth cd T locs cells slots) (hx : p.tables.exec = Jvm.exec) (hZ : Z.Warmed39 s₀.vm) (H : HRep P Z T.heap adr c s) {tt pc : Nat} {st st' : List Value} (hl : lda P tt c st s = some st') {i : Instr}
    (hi : (tt = 0 ∧ i = .iaload) ∨ (tt = 1 ∧ i = .baload) ∨ (tt = 2 ∧ i = .laload)) (hd : decode cd.code pc = .ok (i, 1)) {L : Array Slot} :
    ∀ t, Steps p.tables e below (T.setTop (mkF m (pc + 1) L (st'.map (va (adr + ·))))) t → Steps p.tables e below (T.setTop (mkF m pc L (st.map (va (adr + ·))))) t := by
  obtain ⟨j, a, r, N, rfl, e1, e2, e3, rfl⟩ := lda_spec hl
  obtain ⟨cl, A, hN, hv⟩ := H.2.2.1 a tt N e1 e2
  have hin : ¬ (j < 0 ∨ cl.slots.size ≤ j.toNatClampNeg) := by rw [hN]; exact inb_not e3
  have hat : cl.slots[j.toNatClampNeg]? = some (elv tt s (a + 1) (ix j)) := hv (ix j) (inb_ix e3)
  intro t q
  rw [List.map_cons, va_elv] at q
  rcases hi with ⟨rfl, rfl⟩ | ⟨rfl, rfl⟩ | ⟨rfl, rfl⟩
  · exact X.iaload hx A.1 (State.isArrayOf_alike hZ.alike A.2.1) A.2.2 hin hat (g := mkF m pc L (.int j :: .ref (adr + (a + 1)) :: r.map (va (adr + ·)))) rfl rfl hd t q
  · exact X.baloadBooleans hx A.1 (State.isArrayOf_alike hZ.alike A.2.1) A.2.2 hin hat (g := mkF m pc L (.int j :: .ref (adr + (a + 1)) :: r.map (va (adr + ·)))) rfl rfl hd t q
  · exact X.laload hx A.1 (State.isArrayOf_alike hZ.alike A.2.1) A.2.2 hin hat (g := mkF m pc L (.int j :: .ref (adr + (a + 1)) :: r.map (va (adr + ·)))) rfl rfl hd t q
theorem sta_spec {tt : Nat} {st st' : List Value} (hl : sta P tt c st s = some (st', s')) : ∃ v i a N, st = v :: .int i :: .ref (a + 1) :: st' ∧ P.al[a]? = some (tt, N) ∧ a < c ∧ inb N i ∧
    ((tt = 0 ∧ ∃ z, v = .int z ∧ s' = sI s (a + 1) (ix i) z) ∨ (tt = 1 ∧ ∃ z, v = .int z ∧ s' = sI s (a + 1) (ix i) (z &&& 1)) ∨ (tt = 2 ∧ ∃ z, v = .long z ∧ s' = sL s (a + 1) (ix i) z)) := by
  unfold sta at hl
  split at hl
  · rename_i v i a r
    split at hl
    · rename_i t2 N e1
      split at hl
      · rename_i e2
        obtain ⟨rfl, e3⟩ := e2
        split at hl
        · rename_i e4
          split at hl
          · cases hl; exact ⟨_, i, a, N, rfl, e1, e3, e4, Or.inl ⟨rfl, _, rfl, rfl⟩⟩
          · cases hl; exact ⟨_, i, a, N, rfl, e1, e3, e4, Or.inr (Or.inl ⟨rfl, _, rfl, rfl⟩)⟩
          · cases hl; exact ⟨_, i, a, N, rfl, e1, e3, e4, Or.inr (Or.inr ⟨rfl, _, rfl, rfl⟩)⟩
          · cases hl
        · cases hl
      · cases hl
    · cases hl
  · cases hl
theorem st_sta (X : Stand p l e R s₀ m args below meth cd T locs cells slots) (hx : p.tables.exec = Jvm.exec) (hZ : Z.Warmed39 s₀.vm) (hna : n0 ≤ adr) (I : Inv P Z n0 adr mi c s h0 T.heap locs) {tt pc : Nat} {st st' : List Value} (hl : sta P tt c st s = some (st', s')) {i : Instr}
    (hi : (tt = 0 ∧ i = .iastore) ∨ (tt = 1 ∧ i = .bastore) ∨ (tt = 2 ∧ i = .lastore)) (hd : decode cd.code pc = .ok (i, 1)) {L : Array Slot} :
    ∃ T' locs', Stand p l e R s₀ m args below meth cd T' locs' cells slots ∧ Inv P Z n0 adr mi c s' h0 T'.heap locs' ∧ ∀ t, Steps p.tables e below (T'.setTop (mkF m (pc + 1) L (st'.map (va (adr + ·))))) t → Steps p.tables e below (T.setTop (mkF m pc L (st.map (va (adr + ·))))) t := by
  obtain ⟨H, hFr, hK, hS⟩ := I
  obtain ⟨v, j, a, N, rfl, e1, e2, e3, e4⟩ := sta_spec hl
  obtain ⟨cl, A, hN, hv⟩ := H.2.2.1 a tt N e1 e2
  have hin : ¬ (j < 0 ∨ cl.slots.size ≤ j.toNatClampNeg) := by rw [hN]; exact inb_not e3
  have hal := (List.getElem?_eq_some_iff.mp e1).1
  have fin : ∀ {T' : State} {h' : Heap} {v' : Value}, Stand p l e R s₀ m args below meth cd T' (locs ++ [⟨adr + (a + 1), j.toNatClampNeg⟩]) cells slots → T'.heap = h' → Wr T.heap h' (adr + (a + 1)) j.toNatClampNeg v' → v' = elv tt s' (a + 1) (ix j) →
      (∀ x y, (x ≠ a + 1 ∨ y ≠ ix j) → gI s' x y = gI s x y ∧ gL s' x y = gL s x y) → Inv P Z n0 adr mi c s' h0 T'.heap (locs ++ [⟨adr + (a + 1), j.toNatClampNeg⟩]) := fun {T' h' v'} X' q1 W q2 q3 => by
    rw [q1]
    exact ⟨H.putArr e1 e2 (inb_ix e3) W q2 q3, Fr.snoc X' hFr (by omega), hK.wr W (by omega) (by omega), by rw [W.size]; exact hS⟩
  rcases e4 with ⟨rfl, z, rfl, rfl⟩ | ⟨rfl, z, rfl, rfl⟩ | ⟨rfl, z, rfl, rfl⟩
  · obtain ⟨-, rfl⟩ : (0 : Nat) = 0 ∧ i = .iastore := by rcases hi with q | q | q <;> first | exact q | (have := q.1; omega)
    obtain ⟨T', h', X', q1, W, st⟩ := stI X hx hZ rfl A hin (g := mkF m pc L (.int z :: .int j :: .ref (adr + (a + 1)) :: st'.map (va (adr + ·)))) rfl rfl hd
    refine ⟨T', _, X', fin X' q1 W (by simp [elv, gI_sI, ix]) (fun x y hxy => ?_), st⟩
    rw [gI_sI, gL_sI, if_neg (fun q => hxy.elim (fun z => z q.1) (fun z => z q.2))]; exact ⟨rfl, rfl⟩
  · obtain ⟨-, rfl⟩ : (1 : Nat) = 1 ∧ i = .bastore := by rcases hi with q | q | q <;> first | exact q | (have := q.1; omega)
    obtain ⟨T', h', X', q1, W, st⟩ := stZ X hx hZ rfl A hin (g := mkF m pc L (.int z :: .int j :: .ref (adr + (a + 1)) :: st'.map (va (adr + ·)))) rfl rfl hd
    refine ⟨T', _, X', fin X' q1 W (by simp [elv, gI_sI, ix, nar]) (fun x y hxy => ?_), st⟩
    rw [gI_sI, gL_sI, if_neg (fun q => hxy.elim (fun z => z q.1) (fun z => z q.2))]; exact ⟨rfl, rfl⟩
  · obtain ⟨-, rfl⟩ : (2 : Nat) = 2 ∧ i = .lastore := by rcases hi with q | q | q <;> first | exact q | (have := q.1; omega)
    obtain ⟨T', h', X', q1, W, st⟩ := stJ X hx hZ rfl A hin (g := mkF m pc L (.long z :: .int j :: .ref (adr + (a + 1)) :: st'.map (va (adr + ·)))) rfl rfl hd
    refine ⟨T', _, X', fin X' q1 W (by simp [elv, gL_sL, ix]) (fun x y hxy => ?_), st⟩
    rw [gL_sL, gI_sL, if_neg (fun q => hxy.elim (fun z => z q.1) (fun z => z q.2))]; exact ⟨rfl, rfl⟩
theorem newF_spec {t : ArrayType} {code : Cd} {pc : Nat} {st : List Value} (h : newF P t code pc c st = true) : ∃ n x k fe tt N, st = [.int n, .ref 0] ∧ fetch code (pc + 2) = some (.putfield x, 3) ∧ asc P.fx x = some k ∧ asc P.fs k = some fe ∧ P.al[c]? = some (tt, N) ∧
    fe.2.2.1 = c + 3 ∧ t = atOf tt ∧ 0 ≤ n.toInt ∧ n.toInt = N ∧ N < 1000000 := by
  unfold newF at h
  split at h
  · rename_i n
    split at h
    · rename_i x e1
      split at h
      · rename_i k e2
        split at h
        · rename_i fe e3
          split at h
          · rename_i tt N e4
            obtain ⟨q1, q2, q3, q4, q5⟩ := of_decide_eq_true h
            exact ⟨n, x, k, fe, tt, N, rfl, e1, e2, e3, e4, q1, q2, q3, q4, q5⟩
          · cases h
        · cases h
      · cases h
    · cases h
  · cases h
theorem ty_at {tt : Nat} (h : tt ≤ 2) : newarray.typeOf (atOf tt) = tyOf tt := by
  have : tt = 0 ∨ tt = 1 ∨ tt = 2 := by omega
  rcases this with rfl | rfl | rfl <;> rfl
theorem st_new (LK : LinkC P Z a0) {me : Me} (hme : asc P.ms 0 = some me) (hnm : meth.name = me.nm) (X : Stand p l e (cRoom P 0 me) s₀ m args below meth cd T locs (co 0 c) (zo P 0 c)) (hx : p.tables.exec = Jvm.exec) (hZ : Z.Warmed39 s₀.vm) (hown : s₀.vm.findClass P.nm = some m.cls) (hna : n0 ≤ adr) (hs0 : s₀.heap.size = adr + 1) (I : Inv P Z n0 adr 0 c s h0 T.heap locs)
    (hdec : ∀ pc i n, fetch me.cd pc = some (i, n) → decode cd.code pc = .ok (i, n) ∧ (isSw i = true ∨ n = ilen i)) {t : ArrayType} {pc : Nat} {st : List Value} (h : newF P t me.cd pc c st = true) (hd : decode cd.code pc = .ok (.newarray t, 2)) {L : Array Slot} :
    ∃ T' locs', Stand p l e (cRoom P 0 me) s₀ m args below meth cd T' locs' (co 0 (c + 1)) (zo P 0 (c + 1)) ∧ Inv P Z n0 adr 0 (c + 1) s h0 T'.heap locs' ∧ ∀ t, Steps p.tables e below (T'.setTop (mkF m (pc + 5) L [])) t → Steps p.tables e below (T.setTop (mkF m pc L (st.map (va (adr + ·))))) t := by
  obtain ⟨H, hFr, hK, hS⟩ := I
  obtain ⟨nF, hnF⟩ := LK.1.1
  obtain ⟨n, x, k, fe, tt, N, rfl, e1, e2, e3, e4, e5, rfl, e6, e7, e8⟩ := newF_spec h
  obtain ⟨htt, hac⟩ := LK.2.2.2.2.2.1 _ _ _ e4
  have hal := (List.getElem?_eq_some_iff.mp e4).1
  have hS' : T.heap.size = adr + 1 + c := hS
  have hty := ty_at htt
  have hini : meth.name = "<init>" := by rw [hnm]; exact LK.2.2.2.2.2.2.2.2.2.2.2.2 me hme
  have hLy : (Cond.lays P.nm P.nm fe.1 fe.2.1).before a0 Z = true ∨ ((Cond.laysFinal P.nm P.nm fe.1 fe.2.1).before a0 Z = true ∧ P.nm = P.nm ∧ meth.name = "<init>") := by
    have q := LK.2.2.1 k fe e3
    split at q
    · exact Or.inr ⟨q, rfl, hini⟩
    · exact Or.inl q
  have hzc := zs_succ P.al e4
  have hzm := zs_le P.al (c + 1)
  obtain ⟨T1, hp1, cA, X1, q1, E, A, st1⟩ := newP X hx hZ (aty := atOf tt) (by rw [hty]; exact hac) rfl (g := mkF m pc L [.int n, .ref adr]) rfl hd rfl (by rw [Int32.lt_iff_toInt_lt]; simp only [Int32.reduceToInt]; omega) (cap := N)
    (by simp only [Int32.toNatClampNeg]; omega) (by omega) (by simp only [co, cRoom, if_true]; omega) (by simp only [zo, cRoom, if_true]; omega)
  rw [hty] at A
  have hp := LK.2.2.2.1 k fe e3
  rw [e5] at hp
  obtain ⟨d2, -⟩ := hdec _ _ _ e1
  have hsz1 : hp1.size = adr + 1 + (c + 1) := by
    have hh : T1.heap.size ≤ s₀.heap.size + (c + 1) := X1.heapSize
    have g2 : T.heap.size < Array.size hp1 := A.lt
    rw [q1, hs0] at hh
    rw [hS'] at g2
    omega
  obtain ⟨T2, hp2, X2, q2, W, st2⟩ := putF X1 hx hZ hown (host := "") (Or.inl (LK.2.1 _ _ e2 _ e3)) Via.refl q1 ((H.2.1 k fe e3).ext E) (H.1.ext E) hLy hnF (v := .ref T.heap.size) hp rfl rfl (g := mkF m (pc + 2) L [.ref T.heap.size, .ref adr]) rfl rfl d2
  refine ⟨T2, _, by simpa [co, zo, hzc] using X2, ?_, fun t q => st1 _ (st2 _ q)⟩
  rw [q2]
  refine ⟨H.newArr LK e3 e5 e4 e6 e7 hS' E A W, Fr.snoc X2 hFr hna, ?_, by rw [W.size, hsz1]; simp⟩
  exact (hK.ext E (by rw [hsz1]; omega) (by omega)).wr W (Nat.le_refl _) (by omega)
end Steps
end Jvm.LM

namespace Jvm.LM
open Sem ClassFile Op Lib Jvm.Stand Jvm.Free Jvm.LawKit Jvm.RoadKit
theorem cret_spec {me : Me} {st : List Value} {i : Instr} {v : Option Value} (h : cret me st i = some v) :
    (∃ x, i = .ireturn ∧ st = [.int x] ∧ ((me.rt = 1 ∧ v = some (.int x)) ∨ (me.rt = 2 ∧ v = some (.int (x &&& 1))))) ∨ (∃ x, i = .lreturn ∧ st = [.long x] ∧ me.rt = 3 ∧ v = some (.long x)) ∨ (i = .return_ ∧ st = [] ∧ me.rt = 0 ∧ v = none) := by
  unfold cret at h
  split at h
  · split at h
    · rename_i x
      split at h
      · rename_i e1; cases h; exact Or.inl ⟨x, rfl, rfl, Or.inl ⟨e1, rfl⟩⟩
      · split at h
        · rename_i e1; cases h; exact Or.inl ⟨x, rfl, rfl, Or.inr ⟨e1, rfl⟩⟩
        · cases h
    · cases h
  · split at h
    · rename_i x
      split at h
      · rename_i e1; cases h; exact Or.inr (Or.inl ⟨x, rfl, rfl, e1, rfl⟩)
      · cases h
    · cases h
  · split at h
    · split at h
      · rename_i e1; cases h; exact Or.inr (Or.inr ⟨rfl, rfl, e1, rfl⟩)
      · cases h
    · cases h
  · cases h
section Ret
variable {p : Program} {l : Launch} {e : Env} {R : Room} {s₀ : State} {m : MethodId} {args : Array Value} {below : List Frame} {meth : Method} {cd : Code} {T : State} {locs : List Loc} {cells slots : Nat}
theorem retI' (X : Stand p l e R s₀ m args below meth cd T locs cells slots) (hx : p.tables.exec = Jvm.exec) {pc : Nat} {Ls : Array Slot} {z : Int32} {rest : List Value} (hret : meth.sig.returnType = some .int) (hd : decode cd.code pc = .ok (.ireturn, 1)) {fs : List Frame}
    (hl : ∀ (f : JFrame) (acts : List Action), f.method = m → f.locked = none → f.entered = [] → (doReturn e (T.setTop f) acts (some (.int z))).1 = T.setFrames fs) : Steps p.tables e below (T.setTop (mkF m pc Ls (.int z :: rest))) (T.setFrames fs) :=
  retOut X hx (t := .int) (i := .ireturn) hret rfl (Or.inl ⟨rfl, Or.inl rfl, z, rfl⟩) hd hl
theorem st_ret (X : Stand p l e R s₀ m args below meth cd T locs cells slots) (hx : p.tables.exec = Jvm.exec) {me : Me} (hret : meth.sig.returnType = retOf me.rt) (hlk : meth.locks = false) {ρ : Nat → Nat} {st : List Value} {i : Instr} {v : Option Value} (h : cret me st i = some v) {pc n : Nat} (hd : decode cd.code pc = .ok (i, n)) (hn : isSw i = true ∨ n = ilen i)
    {Q : Option Value → Heap → List Loc → Prop} (hQ : Q v T.heap locs) (hc : cells ≤ R.cells) (hs : slots ≤ R.slots) {L : Array Slot} : Don p e below s₀ R Q (T.setTop (mkF m pc L (st.map (va ρ)))) := by
  rcases cret_spec h with ⟨x, rfl, rfl, h1⟩ | ⟨x, rfl, rfl, h1, rfl⟩ | ⟨rfl, rfl, h1, rfl⟩
  · obtain rfl := hn.resolve_left Bool.false_ne_true
    rcases h1 with ⟨h1, rfl⟩ | ⟨h1, rfl⟩
    · rw [h1] at hret
      obtain ⟨fs, hr, hrun, hended, hW, hsame⟩ := X.leave (v := some (.int x)) (fun q => by rw [hret] at q; cases q) hlk
      exact ⟨_, _, retI' X hx hret hd hr, hrun, hended, _, _, rfl, hQ, ⟨_, rfl⟩, hW, hsame.mono hc hs⟩
    · rw [h1] at hret
      obtain ⟨fs, hr, hrun, hended, hW, hsame⟩ := X.leave (v := some (.int (x &&& 1))) (fun q => by rw [hret] at q; cases q) hlk
      exact ⟨_, _, retN X hx (t := .boolean) hret (Or.inl rfl) hd hr, hrun, hended, _, _, rfl, hQ, ⟨_, rfl⟩, hW, hsame.mono hc hs⟩
  · obtain rfl := hn.resolve_left Bool.false_ne_true
    rw [h1] at hret
    obtain ⟨fs, hr, hrun, hended, hW, hsame⟩ := X.leave (v := some (.long x)) (fun q => by rw [hret] at q; cases q) hlk
    exact ⟨_, _, retOut X hx (t := .long) (i := .lreturn) hret rfl (Or.inr (Or.inl ⟨rfl, rfl, x, rfl⟩)) hd hr, hrun, hended, _, _, rfl, hQ, ⟨_, rfl⟩, hW, hsame.mono hc hs⟩
  · obtain rfl := hn.resolve_left Bool.false_ne_true
    rw [h1] at hret
    obtain ⟨fs, hr, hrun, hended, hW, hsame⟩ := X.leave (v := none) (fun _ => rfl) hlk
    exact ⟨_, _, X.returnOut hx hret hd hr, hrun, hended, _, _, rfl, hQ, ⟨_, rfl⟩, hW, hsame.mono hc hs⟩
end Ret
theorem cret_va {me : Me} {st : List Value} {i : Instr} {v : Option Value} (h : cret me st i = some v) (ρ : Nat → Nat) : v.toList.map (va ρ) = v.toList := by
  rcases cret_spec h with ⟨x, rfl, rfl, ⟨-, rfl⟩ | ⟨-, rfl⟩⟩ | ⟨x, rfl, rfl, -, rfl⟩ | ⟨rfl, rfl, -, rfl⟩ <;> rfl
theorem nd_rev {ρ : Nat → Nat} {as : List Value} (h : nd as = true) : ∀ v ∈ (Value.ref 0 :: as.reverse), ∀ x, v ≠ .double x := fun v hv x e => by
  rcases List.mem_cons.mp hv with q | q
  · subst q; cases e
  · exact nd_spec h v (List.mem_reverse.mp q) x e
theorem pfld_va {P : Cl} {x : Nat} {ini : Bool} {w : Value} {s s1 : St} (hg : pfld P x ini w s = some s1) (ρ : Nat → Nat) : va ρ w = w := by
  cases w <;> first | rfl | skip
  exfalso
  unfold pfld at hg
  split at hg
  · cases hg
  · split at hg
    · cases hg
    · split at hg
      · cases hg
      · split at hg
        · rename_i q; cases q
        · rename_i q; cases q
        · rename_i q; cases q
        · cases hg
theorem cwalk {P : Cl} {Z : State} {a0 : Array Value} (LK : LinkC P Z a0) {n0 adr : Nat} (hna : n0 ≤ adr) : ∀ f mi me, asc P.ms mi = some me → CW P Z n0 adr f mi me := by
  intro f
  induction f with
  | zero =>
    intro mi me hme p l e s₀ m args below meth cd T locs h0 c pc ls st s v s' L hx hZ hown hnm hret hml hlk hs0 hdec hr
    cases hr
  | succ f ih =>
    intro mi me hme p l e s₀ m args below meth cd T locs h0 c pc ls st s v s' L hx hZ hown hnm hret hml hlk hs0 hdec hr X I hL hlen
    simp only [cexec] at hr
    split at hr
    · cases hr
    · rename_i i n hf
      obtain ⟨hd, hn⟩ := hdec pc i n hf
      have ihk := ih mi me hme
      have hsize : L.size = cd.maxLocals := by rw [hL.1, hlen, hml]
      obtain ⟨nF, hnF⟩ := LK.1.1
      unfold cstep at hr
      split at hr
      -- getfield
      · obtain rfl := hn.resolve_left Bool.false_ne_true
        split at hr
        · rename_i r
          split at hr
          · rename_i w hg
            obtain ⟨T', X', q1, st⟩ := st_get LK X hx hZ hown I.1 hg hd (L := L) (r := r.map (va (adr + ·)))
            exact Don.step st (ihk p l e s₀ m args below meth cd T' locs h0 c _ ls (w :: r) s v s' L hx hZ hown hnm hret hml hlk hs0 hdec hr X' (by rw [q1]; exact I) hL hlen)
          · cases hr
        · cases hr
      -- putfield
      · obtain rfl := hn.resolve_left Bool.false_ne_true
        split at hr
        · rename_i w r
          split at hr
          · rename_i s1 hg
            have hini : (mi == 0) = true → meth.name = "<init>" := fun q => by
              have q : mi = 0 := by simpa using q
              subst q; rw [hnm]; exact LK.2.2.2.2.2.2.2.2.2.2.2.2 me hme
            have hw : va (adr + ·) w = w := pfld_va hg _
            obtain ⟨T', locs', X', I', st⟩ := st_put LK X hx hZ hown hna I hini hg hd (L := L) (r := r.map (va (adr + ·)))
            refine Don.step (fun t q => ?_) (ihk p l e s₀ m args below meth cd T' locs' h0 c _ ls r s1 v s' L hx hZ hown hnm hret hml hlk hs0 hdec hr X' I' hL hlen)
            have := st t q
            rw [List.map_cons, hw]; exact this
          · cases hr
        · cases hr
      -- loads of arrays
      · obtain rfl := hn.resolve_left Bool.false_ne_true
        split at hr
        · rename_i st' hg
          exact Don.step (st_lda X hx hZ I.1 hg (Or.inl ⟨rfl, rfl⟩) hd) (ihk p l e s₀ m args below meth cd T locs h0 c _ ls st' s v s' L hx hZ hown hnm hret hml hlk hs0 hdec hr X I hL hlen)
        · cases hr
      · obtain rfl := hn.resolve_left Bool.false_ne_true
        split at hr
        · rename_i st' hg
          exact Don.step (st_lda X hx hZ I.1 hg (Or.inr (Or.inl ⟨rfl, rfl⟩)) hd) (ihk p l e s₀ m args below meth cd T locs h0 c _ ls st' s v s' L hx hZ hown hnm hret hml hlk hs0 hdec hr X I hL hlen)
        · cases hr
      · obtain rfl := hn.resolve_left Bool.false_ne_true
        split at hr
        · rename_i st' hg
          exact Don.step (st_lda X hx hZ I.1 hg (Or.inr (Or.inr ⟨rfl, rfl⟩)) hd) (ihk p l e s₀ m args below meth cd T locs h0 c _ ls st' s v s' L hx hZ hown hnm hret hml hlk hs0 hdec hr X I hL hlen)
        · cases hr
      -- stores into arrays
      · obtain rfl := hn.resolve_left Bool.false_ne_true
        split at hr
        · rename_i st' s1 hg
          obtain ⟨T', locs', X', I', st⟩ := st_sta X hx hZ hna I hg (Or.inl ⟨rfl, rfl⟩) hd (L := L)
          exact Don.step st (ihk p l e s₀ m args below meth cd T' locs' h0 c _ ls st' s1 v s' L hx hZ hown hnm hret hml hlk hs0 hdec hr X' I' hL hlen)
        · cases hr
      · obtain rfl := hn.resolve_left Bool.false_ne_true
        split at hr
        · rename_i st' s1 hg
          obtain ⟨T', locs', X', I', st⟩ := st_sta X hx hZ hna I hg (Or.inr (Or.inl ⟨rfl, rfl⟩)) hd (L := L)
          exact Don.step st (ihk p l e s₀ m args below meth cd T' locs' h0 c _ ls st' s1 v s' L hx hZ hown hnm hret hml hlk hs0 hdec hr X' I' hL hlen)
        · cases hr
      · obtain rfl := hn.resolve_left Bool.false_ne_true
        split at hr
        · rename_i st' s1 hg
          obtain ⟨T', locs', X', I', st⟩ := st_sta X hx hZ hna I hg (Or.inr (Or.inr ⟨rfl, rfl⟩)) hd (L := L)
          exact Don.step st (ihk p l e s₀ m args below meth cd T' locs' h0 c _ ls st' s1 v s' L hx hZ hown hnm hret hml hlk hs0 hdec hr X' I' hL hlen)
        · cases hr
      -- newarray and putfield
      · obtain rfl := hn.resolve_left Bool.false_ne_true
        split at hr
        · rename_i hg
          obtain ⟨rfl, hg⟩ := hg
          obtain ⟨T', locs', X', I', st⟩ := st_new LK hme hnm X hx hZ hown hna (hs0 rfl) I hdec hg hd (L := L)
          exact Don.step st (ihk p l e s₀ m args below meth cd T' locs' h0 (c + 1) _ ls [] s v s' L hx hZ hown hnm hret hml hlk hs0 hdec hr X' I' hL hlen)
        · cases hr
      -- constants
      · obtain rfl := hn.resolve_left Bool.false_ne_true
        split at hr
        · rename_i z hg
          exact Don.step (fun t q => X.ldcI hx hown (mv hZ (LK.2.2.2.2.2.2.1 _ _ hg)) (g := mkF m pc L (st.map (va (adr + ·)))) rfl hd q) (ihk p l e s₀ m args below meth cd T locs h0 c _ ls (.int z :: st) s v s' L hx hZ hown hnm hret hml hlk hs0 hdec hr X I hL hlen)
        · cases hr
      · obtain rfl := hn.resolve_left Bool.false_ne_true
        split at hr
        · rename_i z hg
          exact Don.step (fun t q => X.ldc2J hx hown (mv hZ (LK.2.2.2.2.2.2.1 _ _ hg)) (g := mkF m pc L (st.map (va (adr + ·)))) rfl hd q) (ihk p l e s₀ m args below meth cd T locs h0 c _ ls (.long z :: st) s v s' L hx hZ hown hnm hret hml hlk hs0 hdec hr X I hL hlen)
        · cases hr
      -- Object's constructor
      · obtain rfl := hn.resolve_left Bool.false_ne_true
        split at hr
        · rename_i r
          split at hr
          · rename_i hg
            obtain ⟨rfl, hg1, hg2⟩ := hg
            obtain ⟨w1, w2, w3⟩ := LK.2.2.2.2.2.2.2.1
            obtain ⟨T', X', q1, st⟩ := initO X hx hZ hown w1 w2 w3 rfl (g := mkF m pc L (.ref adr :: r.map (va (adr + ·)))) rfl hsize rfl hd hg1 (W := cats r) (by show 2 * 0 + _ ≤ _; rw [cats_va]; omega) hg2
            exact Don.step st (ihk p l e s₀ m args below meth cd T' locs h0 c _ ls r s v s' L hx hZ hown hnm hret hml hlk hs0 hdec hr X' (by rw [q1]; exact I) hL hlen)
          · cases hr
        · cases hr
      -- a call
      · obtain rfl := hn.resolve_left Bool.false_ne_true
        split at hr
        · cases hr
        · rename_i m' hm'
          split at hr
          · cases hr
          · rename_i me' hme'
            split at hr
            · rename_i r hst
              split at hr
              · rename_i hg
                obtain ⟨hg0, hg1, hg2, hg3⟩ := hg
                dsimp only at hr
                rw [hme'] at hr
                dsimp only at hr
                obtain ⟨bytes, ps, hcode, hdec', hpar, hpl⟩ := LK.2.2.2.2.2.2.2.2.1 m' me' hme'
                obtain ⟨w1, w2, w3⟩ := LK.2.2.2.2.2.2.2.2.2.1 _ _ hm' _ hme'
                by_cases hla : (layA (Value.ref 0 :: (st.take me'.na).reverse)).length ≤ me'.ml
                · rw [if_pos hla] at hr
                  cases hcl : cexec P f m' me' c 0 (lay (.ref 0 :: (st.take me'.na).reverse) me'.ml) [] s with
                  | none => rw [hcl] at hr; cases hr
                  | some vs =>
                    obtain ⟨w, s1⟩ := vs
                    rw [hcl] at hr
                    have hr' : cexec P f mi me c (pc + 3) ls (w.toList ++ r) s1 = some (v, s') := by cases w <;> exact hr
                    have hM := met_of_CW LK hme' (ih m' me' hme') l hdec' (as := .ref 0 :: (st.take me'.na).reverse) (nd_rev (ρ := id) hg3) hla hcl (fun q => absurd q hg0) I.1 (fun q => absurd q hg0)
                    have hB := backOf (R := cRoom P mi me) (p := p) (e := e) (below := below) (s := s₀) (args := args) (len := 3) (W := cats r) hM hZ hcode LK.1.2 hg1 hg2
                    have hdl : me'.na < st.length := by
                      have := congrArg List.length hst
                      simp at this; omega
                    have hsp : st = st.take me'.na ++ .ref 0 :: r := by rw [← hst, List.take_append_drop]
                    have hcell := I.1.1.cell
                    obtain ⟨cel, hc1, hc2⟩ := hcell
                    have key : ∃ (v' : Option Value) (U : State) (Lc : List Loc), Stand p l e (cRoom P mi me) s₀ m args below meth cd U (locs ++ Lc) (co mi c) (zo P mi c) ∧ QC P Z n0 adr m' c w s1 T.heap v' U.heap Lc ∧
                        Steps p.tables e below (T.setTop (mkF m pc L (st.map (va (adr + ·))))) (U.setTop (mkF m (pc + 3) L (v'.toList ++ r.map (va (adr + ·))))) := by
                      have hsm : st.map (va (adr + ·)) = ((st.take me'.na).reverse.map (va (adr + ·))).reverse ++ .ref adr :: r.map (va (adr + ·)) := by
                        conv => lhs; rw [hsp]
                        simp [va]
                      have hll : ∀ sig, parseMethodDescriptor (yOf P me').desc = some sig → ((st.take me'.na).reverse.map (va (adr + ·))).length = sig.parameters.length := lenOf hpar (by simp [hpl]; omega)
                      have hpre : ∀ vm₁, s₀.WarmedH vm₁ → ((Value.ref adr :: (st.take me'.na).reverse.map (va (adr + ·))).toArray = ((Value.ref 0 :: (st.take me'.na).reverse).map (va (adr + ·))).toArray ∧ (T.setVm vm₁).heap = T.heap ∧ co mi c + (cRoom P m' me').cells ≤ (cRoom P mi me).cells ∧ zo P mi c + (cRoom P m' me').slots ≤ (cRoom P mi me).slots) := fun vm₁ _ => by
                        refine ⟨by simp [va], rfl, ?_, ?_⟩
                        · simp only [co, cRoom, if_neg hg0]
                          have := I.1.2.2.2.2
                          split <;> omega
                        · simp only [zo, cRoom, if_neg hg0]
                          have := zs_le P.al c
                          split <;> omega
                      have hz1 : (cRoom P m' me').cells = 0 := by simp [cRoom, hg0]
                      have hz2 : (cRoom P m' me').slots = 0 := by simp [cRoom, hg0]
                      rcases w3 with w3 | ⟨w3, w4⟩
                      · obtain ⟨v', vm₁, ⟨U, lo, ce, sl⟩, -, X', ⟨Lc, hQ, l1, l2, l3⟩, stp⟩ := privCall X hx (y := yOf P me') hown (mv hZ w1) (mv hZ w2) (nF := nF) (mv hZ hnF) (Cond.privateMethod_at (mvP hZ w3 (args := args))) (mv hZ hcode) LK.2.2.2.2.2.2.2.2.2.2.2.1 hB (g := mkF m pc L (st.map (va (adr + ·)))) rfl hsize hc1 hc2 hll hsm (by show 2 * 0 + _ ≤ _; rw [cats_va]; omega) hd hpre
                        dsimp only [Pt.U, Pt.locs, Pt.cells, Pt.slots] at X' hQ l1 l2 l3 stp
                        subst l1 l2 l3
                        rw [hz1, hz2] at X'
                        exact ⟨v', U, Lc, X', hQ, stp⟩
                      · obtain ⟨cq, kq, qa, qb, qc⟩ := isOf hZ rfl I.1.1
                        obtain ⟨v', vm₁, ⟨U, lo, ce, sl⟩, -, X', ⟨Lc, hQ, l1, l2, l3⟩, stp⟩ := X.virtualBack hx (y := yOf P me') (z := yOf P me') hown (mv hZ w1) (mv hZ w3) (notFace_of_selects (args := #[]) (mv hZ w4)) (mv hZ w4) (mv hZ w2) LK.2.2.2.2.2.2.2.2.2.2.2.1 hB qa qc (g := mkF m pc L (st.map (va (adr + ·)))) rfl hsize (Steps.refl _) hll hsm (by show 2 * 0 + _ ≤ _; rw [cats_va]; omega) hd hpre
                        dsimp only [Pt.U, Pt.locs, Pt.cells, Pt.slots] at X' hQ l1 l2 l3 stp
                        subst l1 l2 l3
                        rw [hz1, hz2] at X'
                        exact ⟨v', U, Lc, X', hQ, stp⟩
                    obtain ⟨v', U, Lc, X', ⟨⟨rfl, hva⟩, hF', hH', hK', hS'⟩, stp⟩ := key
                    rw [if_neg hg0] at hH' hS'
                    refine Don.step (fun t q => stp.trans ?_) (ihk p l e s₀ m args below meth cd U (locs ++ Lc) h0 c _ ls (v'.toList ++ r) s1 v s' L hx hZ hown hnm hret hml hlk hs0 hdec hr' X' ⟨hH', I.2.1.app hF', I.2.2.1.trans hK', by rw [hS']; exact I.2.2.2⟩ hL hlen)
                    rw [List.map_append, hva] at q; exact q
                · rw [if_neg hla] at hr; cases hr
              · cases hr
            · cases hr
      -- the rest
      · split at hr
        · split at hr
          · cases hr
          · rename_i h1 hcf
            split at hr
            · rename_i w hw
              cases hr
              have hcf' : mi = 0 → c = P.al.length := fun q => Classical.byContradiction fun z => hcf ⟨q, z⟩
              have hA : HRep P Z T.heap adr (if mi = 0 then P.al.length else c) s := by
                by_cases q : mi = 0
                · rw [if_pos q, ← hcf' q]; exact I.1
                · rw [if_neg q]; exact I.1
              have hB : Array.size T.heap = if mi = 0 then adr + 1 + P.al.length else Array.size h0 := by
                rw [I.2.2.2]
                by_cases q : mi = 0
                · rw [if_pos q, if_pos q, ← hcf' q]
                · rw [if_neg q, if_neg q]
              have hC : co mi c ≤ (cRoom P mi me).cells := by
                simp only [co, cRoom]
                by_cases q : mi = 0
                · rw [if_pos q, if_pos q, ← hcf' q]; exact Nat.le_refl _
                · rw [if_neg q, if_neg q]; exact Nat.le_refl _
              have hD : zo P mi c ≤ (cRoom P mi me).slots := by
                simp only [zo, cRoom]
                by_cases q : mi = 0
                · rw [if_pos q, if_pos q]; exact zs_le _ _
                · rw [if_neg q, if_neg q]; exact Nat.le_refl _
              exact st_ret X hx hret hlk hw hd hn ⟨⟨rfl, cret_va hw⟩, I.2.1, hA, I.2.2.1, hB⟩ hC hD
            · cases hr
        · split at hr
          · rename_i pc' ls' st' hp
            obtain ⟨L', hL', hLs, st⟩ := pstep_sound X hx hp hd hn hL
            have hlen' : ls'.length = me.ml := by rw [← hL'.1, hLs, hL.1]; exact hlen
            exact Don.step st (ihk p l e s₀ m args below meth cd T locs h0 c _ ls' st' s v s' L' hx hZ hown hnm hret hml hlk hs0 hdec hr X I hL' hlen')
          · cases hr
end Jvm.LM

namespace Jvm.LM
open Sem ClassFile Op Lib Jvm.Stand Jvm.Free Jvm.LawKit Jvm.RoadKit
/-! the law's machine: several objects of the class, and one array of ints that it only reads -/
/-- class name, pool to own static method, pool to the class's method, pool index of the constructor, of the class, number of its fields, constants, methods, room: cells, slots -/
abbrev Lw := String × List (Nat × Nat) × List (Nat × Nat) × Nat × Nat × Nat × List (Nat × Value) × List (Nat × Me) × Nat × Nat
def Lw.nm (Q : Lw) : String := Q.1
def Lw.sx (Q : Lw) : List (Nat × Nat) := Q.2.1
def Lw.vx (Q : Lw) : List (Nat × Nat) := Q.2.2.1
def Lw.ci (Q : Lw) : Nat := Q.2.2.2.1
def Lw.cx (Q : Lw) : Nat := Q.2.2.2.2.1
def Lw.nf (Q : Lw) : Nat := Q.2.2.2.2.2.1
def Lw.kx (Q : Lw) : List (Nat × Value) := Q.2.2.2.2.2.2.1
def Lw.ms (Q : Lw) : List (Nat × Me) := Q.2.2.2.2.2.2.2.1
def Lw.rc (Q : Lw) : Nat := Q.2.2.2.2.2.2.2.2.1
def Lw.rs (Q : Lw) : Nat := Q.2.2.2.2.2.2.2.2.2
/-- the objects, how many are made, whether one more is being made -/
abbrev Wd := (Nat → St) × Nat × Bool
abbrev Sc := Option (Nat × (Nat → Int32))
abbrev Rw := Option (Option Value × Wd)
def nr : List Value → Bool
  | [] => true
  | .int _ :: r => nr r
  | .long _ :: r => nr r
  | _ => false
theorem nr_map {l : List Value} (h : nr l = true) (ρ : Nat → Nat) : l.map (va ρ) = l := by
  induction l with
  | nil => rfl
  | cons v r ih => cases v <;> first | (simp only [nr] at h; simp [va, ih h]; done) | (simp [nr] at h)
theorem nr_nd {l : List Value} (h : nr l = true) : nd l = true := by
  induction l with
  | nil => rfl
  | cons v r ih => cases v <;> first | (simp only [nr] at h; simp [nd, ih h]; done) | (simp [nr] at h)
def uo (w : Nat → St) (o : Nat) (s : St) : Nat → St := fun i => if i = o then s else w i
def lstep {α : Type} (P : Cl) (Q : Lw) (sc : Sc) (mi : Nat) (me : Me) (rt : Option Value → Wd → Option α) (cc : Nat → Nat → List Value → St → Rs) (cl : Nat → List Value → Wd → Rw) (k : Nat → Lv → List Value → Wd → Option α) (i : Instr) (pc : Nat) (ls : Lv) (st : List Value) (w : Wd) : Option α :=
  match i with
  | .iaload => match sc, st with
    | some (n, g), .int j :: .ref 0 :: r => if inb n j then k (pc + 1) ls (.int (g (ix j)) :: r) w else none
    | _, _ => none
  | .arraylength => match sc, st with
    | some (n, _), .ref 0 :: r => k (pc + 1) ls (.int (Int32.ofNat n) :: r) w
    | _, _ => none
  | .ldc x => match asc Q.kx x with | some (.int z) => k (pc + 2) ls (.int z :: st) w | _ => none
  | .ldc2_w x => match asc Q.kx x with | some (.long z) => k (pc + 3) ls (.long z :: st) w | _ => none
  | .new x => if mi = 0 ∧ x = Q.cx ∧ w.2.2 = false ∧ (w.2.1 + 1) * (P.al.length + 1) ≤ Q.rc ∧ (w.2.1 + 1) * (Q.nf + zs P.al P.al.length) ≤ Q.rs then
      k (pc + 3) ls (.ref (w.2.1 + 1) :: st) (uo w.1 w.2.1 s0, w.2.1, true) else none
  | .invokespecial x => match asc P.ms 0 with
    | none => none
    | some me' => match st.drop me'.na with
      | .ref (o + 1) :: r => if x = Q.ci ∧ mi = 0 ∧ o = w.2.1 ∧ w.2.2 = true ∧ me'.rf + 1 ≤ me.rf ∧ cats r + (me'.ml + 11) + me'.rl ≤ me.rl ∧ nr (st.take me'.na) = true ∧ (w.2.1 + 1) * (P.al.length + 1) ≤ Q.rc ∧ (w.2.1 + 1) * (Q.nf + zs P.al P.al.length) ≤ Q.rs then
          (match cc 0 0 (.ref 0 :: (st.take me'.na).reverse) (w.1 o) with
           | some (none, s') => k (pc + 3) ls r (uo w.1 o s', w.2.1 + 1, false)
           | _ => none) else none
      | _ => none
  | .invokevirtual x => match asc Q.vx x with
    | none => none
    | some m' => match asc P.ms m' with
      | none => none
      | some me' => match st.drop me'.na with
        | .ref (o + 1) :: r => if m' ≠ 0 ∧ o < w.2.1 ∧ me'.rf + 1 ≤ me.rf ∧ cats r + (me'.ml + 11) + me'.rl ≤ me.rl ∧ nr (st.take me'.na) = true then
            (match cc m' P.al.length (.ref 0 :: (st.take me'.na).reverse) (w.1 o) with
             | some (none, s') => k (pc + 3) ls r (uo w.1 o s', w.2.1, w.2.2)
             | some (some v, s') => k (pc + 3) ls (v :: r) (uo w.1 o s', w.2.1, w.2.2)
             | none => none) else none
        | _ => none
  | .invokestatic x => match asc Q.sx x with
    | none => none
    | some m' => match asc Q.ms m' with
      | none => none
      | some me' => if m' ≠ 0 ∧ me'.na ≤ st.length ∧ me'.rf + 1 ≤ me.rf ∧ cats (st.drop me'.na) + (me'.ml + 11) + me'.rl ≤ me.rl ∧ nd (st.take me'.na) = true then
          (match cl m' (st.take me'.na).reverse w with
           | some (none, w') => k (pc + 3) ls (st.drop me'.na) w'
           | some (some v, w') => k (pc + 3) ls (v :: st.drop me'.na) w'
           | none => none) else none
  | i => if isRet i = true then (match cret me st i with | some v => rt v w | none => none)
    else match pstep i pc ls st with | some (pc', ls', st') => k pc' ls' st' w | none => none
def lexec (P : Cl) (Q : Lw) (sc : Sc) : Nat → Nat → Me → Nat → Lv → List Value → Wd → Rw
  | 0, _, _, _, _, _, _ => none
  | f + 1, mi, me, pc, ls, st, w => match fetch me.cd pc with
    | none => none
    | some (i, _) => lstep P Q sc mi me (fun v w => some (v, w)) (ccall P f) (fun m' as w => match asc Q.ms m' with | some me' => (if (layA as).length ≤ me'.ml then lexec P Q sc f m' me' 0 (lay as me'.ml) [] w else none) | none => none) (lexec P Q sc f mi me) i pc ls st w
theorem lexec_cnt {P : Cl} {Q : Lw} {sc : Sc} : ∀ f mi me pc ls st w v w', mi ≠ 0 → lexec P Q sc f mi me pc ls st w = some (v, w') → w'.2 = w.2 := by
  intro f
  induction f with
  | zero => intro mi me pc ls st w v w' _ h; cases h
  | succ f ih =>
    intro mi me pc ls st w v w' h0 h
    simp only [lexec] at h
    split at h
    · cases h
    · unfold lstep at h
      split at h
      · split at h
        · split at h
          · exact ih _ _ _ _ _ _ _ _ h0 h
          · cases h
        · cases h
      · split at h
        · exact ih _ _ _ _ _ _ _ _ h0 h
        · cases h
      · split at h
        · exact ih _ _ _ _ _ _ _ _ h0 h
        · cases h
      · split at h
        · exact ih _ _ _ _ _ _ _ _ h0 h
        · cases h
      · split at h
        · rename_i q; exact absurd q.1 h0
        · cases h
      · split at h
        · cases h
        · split at h
          · split at h
            · rename_i q; exact absurd q.2.1 h0
            · cases h
          · cases h
      · split at h
        · cases h
        · split at h
          · cases h
          · split at h
            · split at h
              · split at h
                · exact (ih _ _ _ _ _ _ _ _ h0 h).trans rfl
                · exact (ih _ _ _ _ _ _ _ _ h0 h).trans rfl
                · cases h
              · cases h
            · cases h
      · split at h
        · cases h
        · split at h
          · cases h
          · rename_i me' hme'
            split at h
            · rename_i hg
              dsimp only at h
              rw [hme'] at h
              dsimp only at h
              split at h
              · rename_i w2 hc
                split at hc
                · exact (ih _ _ _ _ _ _ _ _ h0 h).trans (ih _ _ _ _ _ _ _ _ hg.1 hc)
                · cases hc
              · rename_i u w2 hc
                split at hc
                · exact (ih _ _ _ _ _ _ _ _ h0 h).trans (ih _ _ _ _ _ _ _ _ hg.1 hc)
                · cases hc
              · cases h
            · cases h
      · split at h
        · split at h
          · cases h; rfl
          · cases h
        · split at h
          · exact ih _ _ _ _ _ _ _ _ h0 h
          · cases h
def lcall (P : Cl) (Q : Lw) (sc : Sc) (f m' : Nat) (as : List Value) (w : Wd) : Rw := match asc Q.ms m' with | some me' => (if (layA as).length ≤ me'.ml then lexec P Q sc f m' me' 0 (lay as me'.ml) [] w else none) | none => none
def zOf (Q : Lw) (me : Me) : MethodName := ⟨Q.nm, me.nm, me.ds⟩
def LinkL (P : Cl) (Q : Lw) (Z : State) (a0 : Array Value) : Prop :=
  ((Cond.classLink Q.nm Q.cx P.nm).before a0 Z = true ∧ (Cond.instantiable P.nm Q.nf).before a0 Z = true) ∧
  (∀ me, asc P.ms 0 = some me → (Cond.methodLink Q.nm Q.ci (yOf P me)).before a0 Z = true ∧ (Cond.instanceMethod (yOf P me)).before a0 Z = true ∧ me.rt = 0) ∧
  (∀ x m', asc Q.vx x = some m' → ∀ me, asc P.ms m' = some me → (Cond.methodLink Q.nm x (yOf P me)).before a0 Z = true ∧ (Cond.declares (yOf P me)).before a0 Z = true ∧ (Cond.instanceMethod (yOf P me)).before a0 Z = true ∧ (Cond.selects P.nm (yOf P me) (yOf P me)).before a0 Z = true) ∧
  (∀ x m', asc Q.sx x = some m' → ∀ me, asc Q.ms m' = some me → (Cond.methodLink Q.nm x (zOf Q me)).before a0 Z = true ∧ (Cond.static (zOf Q me)).before a0 Z = true ∧ (Cond.initialized Q.nm).before a0 Z = true) ∧
  (∀ x v, asc Q.kx x = some v → match v with
    | .int z => (Cond.constant Q.nm x z).before a0 Z = true
    | .long z => (Cond.constantLong Q.nm x z).before a0 Z = true
    | _ => True) ∧
  (∀ mi me, asc Q.ms mi = some me → mi ≠ 0 → ∃ (bytes : ByteArray) (ps : List FieldType), (Cond.code (zOf Q me) bytes me.ml (retOf me.rt)).before a0 Z = true ∧
    (∀ pc i n, fetch me.cd pc = some (i, n) → decode bytes pc = .ok (i, n) ∧ (isSw i = true ∨ n = ilen i)) ∧ parseMethodDescriptor me.ds = some ⟨ps, retOf me.rt⟩ ∧ ps.length = me.na) ∧
  plainName Q.nm = true ∧ (Q.nm ≠ "java/lang/invoke/MethodHandle" ∧ Q.nm ≠ "java/lang/invoke/VarHandle")
def rho (a n0 K : Nat) : Nat → Nat
  | 0 => a
  | o + 1 => n0 + o * K
def SRep (Z : State) (h : Heap) (a n0 : Nat) (sc : Sc) : Prop :=
  match sc with
  | none => True
  | some (n, g) => a < n0 ∧ ∃ cl : Cell, Arr Z h a cl .int ∧ cl.slots.size = n ∧ ∀ i, i < n → cl.slots[i]? = some (.int (g i))
def LRep (P : Cl) (Z : State) (h : Heap) (a n0 : Nat) (sc : Sc) (w : Wd) : Prop :=
  SRep Z h a n0 sc ∧ (∀ o, o < w.2.1 → HRep P Z h (n0 + o * (P.al.length + 1)) P.al.length (w.1 o)) ∧
  (w.2.2 = true → HRep P Z h (n0 + w.2.1 * (P.al.length + 1)) 0 (w.1 w.2.1)) ∧ h.size = n0 + w.2.1 * (P.al.length + 1) + (if w.2.2 = true then 1 else 0)
def lRoom (Q : Lw) (mi : Nat) (me : Me) : Room := { frames := me.rf, cells := if mi = 0 then Q.rc else 0, slots := if mi = 0 then Q.rs else 0, locals := me.rl }
def QL (P : Cl) (Z : State) (a n0 : Nat) (sc : Sc) (v : Option Value) (w' : Wd) (u : Option Value) (h : Heap) (L : List Loc) : Prop :=
  (u = v ∧ ∀ ρ, u.toList.map (va ρ) = u.toList) ∧ Fr n0 L ∧ LRep P Z h a n0 sc w'
def lco (P : Cl) (mi : Nat) (w : Wd) : Nat := if mi = 0 then w.2.1 * (P.al.length + 1) + (if w.2.2 = true then 1 else 0) else 0
def lzo (P : Cl) (Q : Lw) (mi : Nat) (w : Wd) : Nat := if mi = 0 then w.2.1 * (Q.nf + zs P.al P.al.length) + (if w.2.2 = true then Q.nf else 0) else 0
def LW (P : Cl) (Q : Lw) (sc : Sc) (Z : State) (a n0 f mi : Nat) (me : Me) : Prop :=
  ∀ (p : Program) (l : Launch) (e : Env) (s₀ : State) (m : MethodId) (args : Array Value) (below : List Frame) (meth : Method) (cd : Code) (T : State) (locs : List Loc) (pc : Nat) (ls : Lv) (st : List Value) (w : Wd) (v : Option Value) (w' : Wd) (L : Array Slot),
    p.tables.exec = Jvm.exec → Z.Warmed39 s₀.vm → s₀.vm.findClass Q.nm = some m.cls → meth.sig.returnType = retOf me.rt → cd.maxLocals = me.ml → meth.locks = false → (mi = 0 → s₀.heap.size = n0) →
    (∀ pc i n, fetch me.cd pc = some (i, n) → decode cd.code pc = .ok (i, n) ∧ (isSw i = true ∨ n = ilen i)) →
    lexec P Q sc f mi me pc ls st w = some (v, w') →
    Stand p l e (lRoom Q mi me) s₀ m args below meth cd T locs (lco P mi w) (lzo P Q mi w) → w.2.1 * (P.al.length + 1) + (if w.2.2 = true then 1 else 0) ≤ (lRoom Q 0 me).cells → w.2.1 * (Q.nf + zs P.al P.al.length) + (if w.2.2 = true then Q.nf else 0) ≤ (lRoom Q 0 me).slots →
    LRep P Z T.heap a n0 sc w → Fr n0 locs → LR (rho a n0 (P.al.length + 1)) ls L → ls.length = me.ml →
    Don p e below s₀ (lRoom Q mi me) (QL P Z a n0 sc v w') (T.setTop (mkF m pc L (st.map (va (rho a n0 (P.al.length + 1))))))
theorem met_of_LW {P : Cl} {Q : Lw} {sc : Sc} {Z : State} {a0 : Array Value} (LL : LinkL P Q Z a0) {a n0 f mi : Nat} {me : Me} (hW : LW P Q sc Z a n0 f mi me) (hmi : mi ≠ 0) (l : Launch) {bytes : ByteArray}
    (hdec : ∀ pc i n, fetch me.cd pc = some (i, n) → decode bytes pc = .ok (i, n) ∧ (isSw i = true ∨ n = ilen i))
    {as : List Value} (hd : ∀ v ∈ as, ∀ x, v ≠ .double x) (hlen : (layA as).length ≤ me.ml) {w w' : Wd} {v : Option Value} {h : Heap} (hr : lexec P Q sc f mi me 0 (lay as me.ml) [] w = some (v, w'))
    (hc1 : w.2.1 * (P.al.length + 1) + (if w.2.2 = true then 1 else 0) ≤ Q.rc) (hc2 : w.2.1 * (Q.nf + zs P.al P.al.length) + (if w.2.2 = true then Q.nf else 0) ≤ Q.rs)
    (H : LRep P Z h a n0 sc w) :
    MetFree l (zOf Q me) (head1 [Cond.code (zOf Q me) bytes me.ml (retOf me.rt)] (lRoom Q mi me)) (fun b U => b = (as.map (va (rho a n0 (P.al.length + 1)))).toArray ∧ Z.Warmed39 U.vm ∧ U.heap = h) (fun _ _ _ _ _ => True)
      (fun _ U o U' => ∃ u L, o = .returned u ∧ QL P Z a n0 sc v w' u U'.heap L ∧ FrameEnd U o U' L (lRoom Q mi me).cells (lRoom Q mi me).slots) := by
  refine MetFree.of_bodySF (plainFor_of_name LL.2.2.2.2.2.2.1) hisR ?_
  intro p e s₀ m args below meth cd s₁ Bd hml hP hK
  obtain ⟨rfl, hZ, hh⟩ := hP
  have e0 : s₁.heap = h := by rw [← hh, Bd.state]; rfl
  have X0 : Stand p l e (lRoom Q mi me) s₀ m _ below meth cd s₁ [] 0 0 := Stand.of_body Bd
  have hown : s₀.vm.findClass Q.nm = some m.cls := findClass_of_methodNamed Bd.named
  have hk0 : lco P mi w = 0 := by simp [lco, hmi]
  have hz0 : lzo P Q mi w = 0 := by simp [lzo, hmi]
  have D := hW p l e s₀ m _ below meth cd s₁ [] 0 (lay as me.ml) [] w v w' _ Bd.exec hZ hown Bd.returns hml Bd.notSynchronized (fun q => absurd q hmi)
    (fun pc i n q => by rw [Bd.bytes]; exact hdec pc i n q) hr (by rw [hk0, hz0]; exact X0) (by simpa [lRoom] using hc1) (by simpa [lRoom] using hc2) (by rw [e0]; exact H) (Fr.nil n0) (lay_LR hd hlen) (lay_len hlen)
  obtain ⟨s₂, o, a1, a2, a3, u, L, a4, a5, a6⟩ := D
  exact ⟨s₂, o, a1, a2, a3, u, L, a4, a5, a6⟩
end Jvm.LM

namespace Jvm.LM
open Sem ClassFile Op Lib Jvm.Stand Jvm.Free Jvm.LawKit Jvm.RoadKit
theorem rng {a b K : Nat} (h : a < b) : a * K + K ≤ b * K := by
  have := Nat.mul_le_mul_right K (show a + 1 ≤ b from h)
  rw [Nat.succ_mul] at this; exact this
theorem SRep.congr {Z : State} {h h' : Heap} {a n0 : Nat} {sc : Sc} (H : SRep Z h a n0 sc) (e : ∀ x, x < n0 → h'[x]? = h[x]?) : SRep Z h' a n0 sc := by
  unfold SRep at H ⊢
  split
  · trivial
  · obtain ⟨h1, cl, ⟨q1, q2⟩, q3⟩ := H
    exact ⟨h1, cl, ⟨by rw [e a h1]; exact q1, q2⟩, q3⟩
/-- one object has moved, the others stand -/
theorem LRep.call {P : Cl} {Z : State} {h h' : Heap} {a n0 o : Nat} {sc : Sc} {w : Wd} {s' : St} (H : LRep P Z h a n0 sc w) (ho : o < w.2.1) (K : Kp h h' (n0 + o * (P.al.length + 1)) P.al.length) (hs : h'.size = h.size) (H' : HRep P Z h' (n0 + o * (P.al.length + 1)) P.al.length s') :
    LRep P Z h' a n0 sc (uo w.1 o s', w.2.1, w.2.2) := by
  obtain ⟨h1, h2, h3, h4⟩ := H
  refine ⟨h1.congr fun x hx => K x (Or.inl (by omega)), fun o' ho' => ?_, fun q => ?_, by rw [hs]; exact h4⟩
  · by_cases e : o' = o
    · subst e; simpa [uo] using H'
    · have := (h2 o' ho').congr (h' := h') fun x hx1 hx2 => K x (by
        rcases Nat.lt_or_gt_of_ne e with q | q
        · have := rng (K := P.al.length + 1) q; omega
        · have := rng (K := P.al.length + 1) q; omega)
      simpa [uo, e] using this
  · have e : w.2.1 ≠ o := by omega
    have := (h3 q).congr (h' := h') fun x hx1 hx2 => K x (by have := rng (K := P.al.length + 1) ho; omega)
    simpa [uo, e] using this
theorem ar1 {x k r y : Nat} (e : y = x + (k + 1)) (h : y ≤ r) : x + 1 + k ≤ r := by omega
theorem ar3 {x k y : Nat} (h : y = x + (k + 1)) : y + 0 = x + 1 + k := by omega
theorem ar4 {x f z y : Nat} (h : y = x + (f + z)) : y + 0 = x + f + z := by omega
theorem ar5 {x f z r y : Nat} (e : y = x + (f + z)) (h : y ≤ r) : x + f + z ≤ r := by omega
theorem ar6 {n x k y : Nat} (h : y = x + (k + 1)) : n + x + 1 + k = n + y + 0 := by omega
theorem lwalk {P : Cl} {Q : Lw} {sc : Sc} {Z : State} {a0 : Array Value} (LK : LinkC P Z a0) (LL : LinkL P Q Z a0) {a n0 : Nat} : ∀ f mi me, asc Q.ms mi = some me → LW P Q sc Z a n0 f mi me := by
  intro f
  induction f with
  | zero =>
    intro mi me hme p l e s₀ m args below meth cd T locs pc ls st w v w' L hx hZ hown hret hml hlk hs0 hdec hr
    cases hr
  | succ f ih =>
    intro mi me hme p l e s₀ m args below meth cd T locs pc ls st w v w' L hx hZ hown hret hml hlk hs0 hdec hr X hc1 hc2 I hFr hL hlen
    simp only [lexec] at hr
    split at hr
    · cases hr
    · rename_i i n hf
      obtain ⟨hd, hn⟩ := hdec pc i n hf
      have ihk := ih mi me hme
      have hsize : L.size = cd.maxLocals := by rw [hL.1, hlen, hml]
      unfold lstep at hr
      split at hr
      -- iaload
      · obtain rfl := hn.resolve_left Bool.false_ne_true
        split at hr
        · rename_i N g j r
          split at hr
          · rename_i hin
            obtain ⟨ha, cl, A, hN, hv⟩ : SRep Z T.heap a n0 (some (N, g)) := I.1
            refine Don.step (fun t q => ?_) (ihk p l e s₀ m args below meth cd T locs _ ls (.int (g (ix j)) :: r) w v w' L hx hZ hown hret hml hlk hs0 hdec hr X hc1 hc2 I hFr hL hlen)
            exact X.iaload hx A.1 (State.isArrayOf_alike hZ.alike A.2.1) A.2.2 (by rw [hN]; exact inb_not hin) (hv (ix j) (inb_ix hin)) (g := mkF m pc L (.int j :: .ref a :: r.map (va (rho a n0 (P.al.length + 1))))) rfl rfl hd t q
          · cases hr
        · cases hr
      -- arraylength
      · obtain rfl := hn.resolve_left Bool.false_ne_true
        split at hr
        · rename_i N g r
          obtain ⟨ha, cl, A, hN, hv⟩ : SRep Z T.heap a n0 (some (N, g)) := I.1
          refine Don.step (fun t q => ?_) (ihk p l e s₀ m args below meth cd T locs _ ls (.int (Int32.ofNat N) :: r) w v w' L hx hZ hown hret hml hlk hs0 hdec hr X hc1 hc2 I hFr hL hlen)
          exact X.arraylength hx A.1 (State.isArrayOf_alike hZ.alike A.2.1) (g := mkF m pc L (.ref a :: r.map (va (rho a n0 (P.al.length + 1))))) rfl rfl hd t (by rw [hN]; exact q)
        · cases hr
      -- constants
      · obtain rfl := hn.resolve_left Bool.false_ne_true
        split at hr
        · rename_i z hg
          exact Don.step (fun t q => X.ldcI hx hown (mv hZ (LL.2.2.2.2.1 _ _ hg)) (g := mkF m pc L (st.map (va (rho a n0 (P.al.length + 1))))) rfl hd q) (ihk p l e s₀ m args below meth cd T locs _ ls (.int z :: st) w v w' L hx hZ hown hret hml hlk hs0 hdec hr X hc1 hc2 I hFr hL hlen)
        · cases hr
      · obtain rfl := hn.resolve_left Bool.false_ne_true
        split at hr
        · rename_i z hg
          exact Don.step (fun t q => X.ldc2J hx hown (mv hZ (LL.2.2.2.2.1 _ _ hg)) (g := mkF m pc L (st.map (va (rho a n0 (P.al.length + 1))))) rfl hd q) (ihk p l e s₀ m args below meth cd T locs _ ls (.long z :: st) w v w' L hx hZ hown hret hml hlk hs0 hdec hr X hc1 hc2 I hFr hL hlen)
        · cases hr
      -- new
      · obtain rfl := hn.resolve_left Bool.false_ne_true
        split at hr
        · rename_i hg
          obtain ⟨rfl, rfl, hp, hg1, hg2⟩ := hg
          obtain ⟨os, cnt, pend⟩ := w
          dsimp only at hp hg1 hg2 hr
          subst hp
          have hk : lco P 0 (os, cnt, false) = cnt * (P.al.length + 1) := by simp [lco]
          have hz : lzo P Q 0 (os, cnt, false) = cnt * (Q.nf + zs P.al P.al.length) := by simp [lzo]
          have m1 : (cnt + 1) * (P.al.length + 1) = cnt * (P.al.length + 1) + (P.al.length + 1) := Nat.succ_mul ..
          have m2 : (cnt + 1) * (Q.nf + zs P.al P.al.length) = cnt * (Q.nf + zs P.al P.al.length) + (Q.nf + zs P.al P.al.length) := Nat.succ_mul ..
          rw [hk, hz] at X
          obtain ⟨T', h', X', q1, E, A, D, -, st1⟩ := newO X hx hZ hown LL.1.1 LL.1.2 LK.1.2 rfl (g := mkF m pc L (st.map (va (rho a n0 (P.al.length + 1))))) rfl hd (by simp only [lRoom, if_true]; omega) (by simp only [lRoom, if_true]; omega)
          obtain ⟨i1, i2, i3, i4⟩ := I
          have hsz : T.heap.size = n0 + cnt * (P.al.length + 1) := by simpa using i4
          have hsz' : h'.size = n0 + cnt * (P.al.length + 1) + 1 := by
            have g1 : T'.heap.size ≤ s₀.heap.size + (cnt * (P.al.length + 1) + 1) := X'.heapSize
            have g2 : T.heap.size < Array.size h' := A.lt
            rw [q1, hs0 rfl] at g1
            rw [hsz] at g2
            omega
          have same : ∀ x, x < T.heap.size → h'[x]? = T.heap[x]? := fun x hx => by
            obtain ⟨cc, hcc⟩ : ∃ cc, T.heap[x]? = some cc := ⟨T.heap[x], Array.getElem?_eq_getElem hx⟩
            rw [hcc]; exact E.2 _ _ hcc
          have I' : LRep P Z T'.heap a n0 sc (uo os cnt s0, cnt, true) := by
            rw [q1]
            refine ⟨i1.congr fun x hx => same x (by omega), fun o ho => ?_, fun _ => ?_, by simpa using hsz'⟩
            · have := (i2 o ho).congr (h' := h') fun x hx1 hx2 => same x (by have := rng (K := P.al.length + 1) (show o < cnt from ho); omega)
              simpa [uo, show o ≠ cnt from Nat.ne_of_lt ho] using this
            · simp only [uo, if_true]
              rw [hsz] at A D
              refine ⟨A, fun k fe hk => ?_, fun j tt N hj hc => absurd hc (Nat.not_lt_zero _), fun j i hj => ⟨rfl, rfl⟩, Nat.zero_le _⟩
              have q := D (laid_of LK hk) (LK.2.2.2.1 k fe hk)
              have e2 : Fval (n0 + cnt * (P.al.length + 1)) 0 s0 k fe = defaultValue (fkTy P fe.2.2.1) := by
                simp only [Fval]; split
                · rename_i e3; rw [e3]; rfl
                · rename_i e3; rw [e3]; rfl
                · rename_i e3; rw [e3]; rfl
                · rename_i e3; rw [e3]; rfl
              rw [e2]; exact q
          refine Don.step (fun t q => st1 t ?_) (ihk p l e s₀ m args below meth cd T' locs _ ls (.ref (cnt + 1) :: st) _ v w' L hx hZ hown hret hml hlk hs0 hdec hr (by simpa [lco, lzo] using X') (by simp only [lRoom, if_true]; omega) (by simp only [lRoom, if_true]; omega) I' hFr hL hlen)
          rw [hsz]; exact q
        · cases hr
      -- the constructor
      · obtain rfl := hn.resolve_left Bool.false_ne_true
        split at hr
        · cases hr
        · rename_i me' hme'
          split at hr
          · rename_i o r hst
            split at hr
            · rename_i hg
              obtain ⟨rfl, rfl, hgo, hp, hg1, hg2, hg3, hg4, hg5⟩ := hg
              obtain ⟨os, cnt, pend⟩ := w
              dsimp only at hgo hp hg1 hg2 hr hg4 hg5
              subst hp hgo
              obtain ⟨bytes, ps, hcode, hdec', hpar, hpl⟩ := LK.2.2.2.2.2.2.2.2.1 0 me' hme'
              obtain ⟨w1, w2, hrt⟩ := LL.2.1 me' hme'
              have hcode' := hcode
              rw [hrt] at hcode'
              have hini := LK.2.2.2.2.2.2.2.2.2.2.2.2 me' hme'
              have m1 : (o + 1) * (P.al.length + 1) = o * (P.al.length + 1) + (P.al.length + 1) := Nat.succ_mul ..
              have m2 : (o + 1) * (Q.nf + zs P.al P.al.length) = o * (Q.nf + zs P.al P.al.length) + (Q.nf + zs P.al P.al.length) := Nat.succ_mul ..
              simp only [ccall, hme'] at hr
              by_cases hla : (layA (Value.ref 0 :: (st.take me'.na).reverse)).length ≤ me'.ml
              · rw [if_pos hla] at hr
                cases hcl : cexec P f 0 me' 0 0 (lay (.ref 0 :: (st.take me'.na).reverse) me'.ml) [] (os o) with
                | none => rw [hcl] at hr; cases hr
                | some vs =>
                  obtain ⟨u, s1⟩ := vs
                  rw [hcl] at hr
                  cases u with
                  | some u => cases hr
                  | none =>
                    dsimp only at hr
                    obtain ⟨i1, i2, i3, i4⟩ := I
                    have hsz : T.heap.size = n0 + o * (P.al.length + 1) + 1 := by simpa using i4
                    have hM := met_of_CW LK hme' (cwalk LK (n0 := n0) (adr := n0 + o * (P.al.length + 1)) (Nat.le_add_right _ _) f 0 me' hme') l hdec' (as := .ref 0 :: (st.take me'.na).reverse) (nd_rev (ρ := id) (nr_nd hg3)) hla hcl (fun _ => rfl) (i3 rfl) (fun _ => hsz)
                    have hB := backOf (R := lRoom Q 0 me) (p := p) (e := e) (below := below) (s := s₀) (args := args) (len := 3) (W := cats r) hM hZ hcode LK.1.2 hg1 hg2
                    have hdl : me'.na < st.length := by
                      have := congrArg List.length hst
                      simp at this; omega
                    have hsp : st = st.take me'.na ++ .ref (o + 1) :: r := by rw [← hst, List.take_append_drop]
                    have hrv : ∀ ρ : Nat → Nat, (st.take me'.na).reverse.map (va ρ) = (st.take me'.na).reverse := fun ρ => by rw [List.map_reverse, nr_map hg3]
                    have hsm : st.map (va (rho a n0 (P.al.length + 1))) = ((st.take me'.na).reverse).reverse ++ .ref (n0 + o * (P.al.length + 1)) :: r.map (va (rho a n0 (P.al.length + 1))) := by
                      conv => lhs; rw [hsp]
                      rw [List.map_append, nr_map hg3]; simp [va, rho]
                    have hll : ∀ sig, parseMethodDescriptor (yOf P me').desc = some sig → ((st.take me'.na).reverse).length = sig.parameters.length := lenOf hpar (by simp [hpl]; omega)
                    have hk : lco P 0 (os, o, true) = o * (P.al.length + 1) + 1 := by simp [lco]
                    have hz : lzo P Q 0 (os, o, true) = o * (Q.nf + zs P.al P.al.length) + Q.nf := by simp [lzo]
                    rw [hk, hz] at X
                    have hpre : ∀ vm₁, s₀.WarmedH vm₁ → ((Value.ref (n0 + o * (P.al.length + 1)) :: (st.take me'.na).reverse).toArray = ((Value.ref 0 :: (st.take me'.na).reverse).map (va ((n0 + o * (P.al.length + 1)) + ·))).toArray ∧ (T.setVm vm₁).heap = T.heap ∧ o * (P.al.length + 1) + 1 + (cRoom P 0 me').cells ≤ (lRoom Q 0 me).cells ∧ o * (Q.nf + zs P.al P.al.length) + Q.nf + (cRoom P 0 me').slots ≤ (lRoom Q 0 me).slots) := fun vm₁ _ => by
                      refine ⟨by rw [List.map_cons, hrv]; rfl, rfl, ?_, ?_⟩
                      · show o * (P.al.length + 1) + 1 + P.al.length ≤ Q.rc
                        exact ar1 m1 hg4
                      · show o * (Q.nf + zs P.al P.al.length) + Q.nf + zs P.al P.al.length ≤ Q.rs
                        exact ar5 m2 hg5
                    obtain ⟨v', vm₁, ⟨U, lo, ce, sl⟩, -, X', ⟨Lc, hQ, l1, l2, l3⟩, stp⟩ := X.specialBack hx (y := yOf P me') hini hown (mv hZ w1) (mv hZ w2) (mv hZ hcode') LK.2.2.2.2.2.2.2.2.2.2.2.1 hB (g := mkF m pc L (st.map (va (rho a n0 (P.al.length + 1))))) rfl hsize (Steps.refl _) hll hsm (by show 2 * 0 + _ ≤ _; rw [cats_va]; omega) hd hpre
                    dsimp only [Pt.U, Pt.locs, Pt.cells, Pt.slots] at X' hQ l1 l2 l3 stp
                    subst l1 l2 l3
                    obtain ⟨⟨rfl, -⟩, hF', hH', hK', hS'⟩ := hQ
                    rw [if_pos rfl] at hH' hS'
                    have I' : LRep P Z U.heap a n0 sc (uo os o s1, o + 1, false) := by
                      refine ⟨i1.congr fun x hx => hK' x (Or.inl (by omega)), fun o' ho' => ?_, fun q => by simp at q, by rw [hS']; show n0 + o * (P.al.length + 1) + 1 + P.al.length = n0 + (o + 1) * (P.al.length + 1) + 0; exact ar6 m1⟩
                      by_cases e2 : o' = o
                      · subst e2; simpa [uo] using hH'
                      · have ho2 : o' < o := by have : o' < o + 1 := ho'; omega
                        have := (i2 o' ho2).congr (h' := U.heap) fun x hx1 hx2 => hK' x (by have := rng (K := P.al.length + 1) ho2; omega)
                        simpa [uo, e2] using this
                    refine Don.step (fun t q => stp.trans q) (ihk p l e s₀ m args below meth cd U (locs ++ Lc) _ ls r _ v w' L hx hZ hown hret hml hlk hs0 hdec hr ?_ (by show (o + 1) * (P.al.length + 1) + 0 ≤ Q.rc; omega) (by show (o + 1) * (Q.nf + zs P.al P.al.length) + 0 ≤ Q.rs; omega) I' (hFr.app hF') hL hlen)
                    have h1 : lco P 0 (uo os o s1, o + 1, false) = o * (P.al.length + 1) + 1 + (cRoom P 0 me').cells := by
                      show (o + 1) * (P.al.length + 1) + 0 = o * (P.al.length + 1) + 1 + P.al.length
                      exact ar3 m1
                    have h2 : lzo P Q 0 (uo os o s1, o + 1, false) = o * (Q.nf + zs P.al P.al.length) + Q.nf + (cRoom P 0 me').slots := by
                      show (o + 1) * (Q.nf + zs P.al P.al.length) + 0 = o * (Q.nf + zs P.al P.al.length) + Q.nf + zs P.al P.al.length
                      exact ar4 m2
                    rw [h1, h2]; exact X'
              · rw [if_neg hla] at hr; cases hr
            · cases hr
          · cases hr
      -- a method of the class
      · obtain rfl := hn.resolve_left Bool.false_ne_true
        split at hr
        · cases hr
        · rename_i m' hm'
          split at hr
          · cases hr
          · rename_i me' hme'
            split at hr
            · rename_i o r hst
              split at hr
              · rename_i hg
                obtain ⟨hg0, hgo, hg1, hg2, hg3⟩ := hg
                obtain ⟨bytes, ps, hcode, hdec', hpar, hpl⟩ := LK.2.2.2.2.2.2.2.2.1 m' me' hme'
                obtain ⟨w1, w2, w3, w4⟩ := LL.2.2.1 _ _ hm' me' hme'
                simp only [ccall, hme'] at hr
                by_cases hla : (layA (Value.ref 0 :: (st.take me'.na).reverse)).length ≤ me'.ml
                · rw [if_pos hla] at hr
                  cases hcl : cexec P f m' me' P.al.length 0 (lay (.ref 0 :: (st.take me'.na).reverse) me'.ml) [] (w.1 o) with
                  | none => rw [hcl] at hr; cases hr
                  | some vs =>
                    obtain ⟨u, s1⟩ := vs
                    rw [hcl] at hr
                    have hr' : lexec P Q sc f mi me (pc + 3) ls (u.toList ++ r) (uo w.1 o s1, w.2.1, w.2.2) = some (v, w') := by cases u <;> exact hr
                    have hM := met_of_CW LK hme' (cwalk LK (n0 := n0) (adr := n0 + o * (P.al.length + 1)) (Nat.le_add_right _ _) f m' me' hme') l hdec' (as := .ref 0 :: (st.take me'.na).reverse) (nd_rev (ρ := id) (nr_nd hg3)) hla hcl (fun q => absurd q hg0) (I.2.1 o hgo) (fun q => absurd q hg0)
                    have hB := backOf (R := lRoom Q mi me) (p := p) (e := e) (below := below) (s := s₀) (args := args) (len := 3) (W := cats r) hM hZ hcode LK.1.2 hg1 hg2
                    have hdl : me'.na < st.length := by
                      have := congrArg List.length hst
                      simp at this; omega
                    have hsp : st = st.take me'.na ++ .ref (o + 1) :: r := by rw [← hst, List.take_append_drop]
                    have hrv : ∀ ρ : Nat → Nat, (st.take me'.na).reverse.map (va ρ) = (st.take me'.na).reverse := fun ρ => by rw [List.map_reverse, nr_map hg3]
                    have hsm : st.map (va (rho a n0 (P.al.length + 1))) = ((st.take me'.na).reverse).reverse ++ .ref (n0 + o * (P.al.length + 1)) :: r.map (va (rho a n0 (P.al.length + 1))) := by
                      conv => lhs; rw [hsp]
                      rw [List.map_append, nr_map hg3]; simp [va, rho]
                    have hll : ∀ sig, parseMethodDescriptor (yOf P me').desc = some sig → ((st.take me'.na).reverse).length = sig.parameters.length := lenOf hpar (by simp [hpl]; omega)
                    have hz1 : (cRoom P m' me').cells = 0 := by simp [cRoom, hg0]
                    have hz2 : (cRoom P m' me').slots = 0 := by simp [cRoom, hg0]
                    have hpre : ∀ vm₁, s₀.WarmedH vm₁ → ((Value.ref (n0 + o * (P.al.length + 1)) :: (st.take me'.na).reverse).toArray = ((Value.ref 0 :: (st.take me'.na).reverse).map (va ((n0 + o * (P.al.length + 1)) + ·))).toArray ∧ (T.setVm vm₁).heap = T.heap ∧ lco P mi w + (cRoom P m' me').cells ≤ (lRoom Q mi me).cells ∧ lzo P Q mi w + (cRoom P m' me').slots ≤ (lRoom Q mi me).slots) := fun vm₁ _ => by
                      refine ⟨by rw [List.map_cons, hrv]; rfl, rfl, ?_, ?_⟩
                      · rw [hz1]; simp only [lco, lRoom] at *; split
                        · simpa using hc1
                        · exact Nat.le_refl _
                      · rw [hz2]; simp only [lzo, lRoom] at *; split
                        · simpa using hc2
                        · exact Nat.le_refl _
                    obtain ⟨cq, kq, qa, qb, qc⟩ := isOf hZ rfl (I.2.1 o hgo).1
                    obtain ⟨v', vm₁, ⟨U, lo, ce, sl⟩, -, X', ⟨Lc, hQ, l1, l2, l3⟩, stp⟩ := X.virtualBack hx (y := yOf P me') (z := yOf P me') hown (mv hZ w1) (mv hZ w2) (notFace_of_selects (args := #[]) (mv hZ w4)) (mv hZ w4) (mv hZ w3) LK.2.2.2.2.2.2.2.2.2.2.2.1 hB qa qc (g := mkF m pc L (st.map (va (rho a n0 (P.al.length + 1))))) rfl hsize (Steps.refl _) hll hsm (by show 2 * 0 + _ ≤ _; rw [cats_va]; omega) hd hpre
                    dsimp only [Pt.U, Pt.locs, Pt.cells, Pt.slots] at X' hQ l1 l2 l3 stp
                    subst l1 l2 l3
                    obtain ⟨⟨rfl, hva⟩, hF', hH', hK', hS'⟩ := hQ
                    rw [if_neg hg0] at hH' hS'
                    rw [hz1, hz2] at X'
                    refine Don.step (fun t q => stp.trans ?_) (ihk p l e s₀ m args below meth cd U (locs ++ Lc) _ ls (v'.toList ++ r) _ v w' L hx hZ hown hret hml hlk hs0 hdec hr' X' hc1 hc2 (I.call hgo hK' hS' hH') (hFr.app hF') hL hlen)
                    rw [List.map_append, hva] at q; exact q
                · rw [if_neg hla] at hr; cases hr
              · cases hr
            · cases hr
      -- a static method of the law
      · obtain rfl := hn.resolve_left Bool.false_ne_true
        split at hr
        · cases hr
        · rename_i m' hm'
          split at hr
          · cases hr
          · rename_i me' hme'
            split at hr
            · rename_i hg
              obtain ⟨hg0, hgn, hg1, hg2, hg3⟩ := hg
              obtain ⟨bytes, ps, hcode, hdec', hpar, hpl⟩ := LL.2.2.2.2.2.1 m' me' hme' hg0
              obtain ⟨w1, w2, w3⟩ := LL.2.2.2.1 _ _ hm' me' hme'
              dsimp only at hr
              rw [hme'] at hr
              dsimp only at hr
              by_cases hla : (layA (st.take me'.na).reverse).length ≤ me'.ml
              · rw [if_pos hla] at hr
                cases hcl : lexec P Q sc f m' me' 0 (lay (st.take me'.na).reverse me'.ml) [] w with
                | none => rw [hcl] at hr; cases hr
                | some vs =>
                  obtain ⟨u, w2'⟩ := vs
                  rw [hcl] at hr
                  have hr' : lexec P Q sc f mi me (pc + 3) ls (u.toList ++ st.drop me'.na) w2' = some (v, w') := by cases u <;> exact hr
                  have hndv : ∀ v ∈ (st.take me'.na).reverse, ∀ x, v ≠ .double x := fun v hv x e => nd_spec hg3 v (List.mem_reverse.mp hv) x e
                  have hM := met_of_LW LL (ih m' me' hme') hg0 l hdec' (as := (st.take me'.na).reverse) hndv hla hcl (by simpa [lRoom] using hc1) (by simpa [lRoom] using hc2) I
                  have hB := backOf (R := lRoom Q mi me) (p := p) (e := e) (below := below) (s := s₀) (args := args) (len := 3) (W := cats (st.drop me'.na)) hM hZ hcode w3 hg1 hg2
                  have hsm : st.map (va (rho a n0 (P.al.length + 1))) = (((st.take me'.na).reverse).map (va (rho a n0 (P.al.length + 1)))).reverse ++ (st.drop me'.na).map (va (rho a n0 (P.al.length + 1))) := by
                    conv => lhs; rw [← List.take_append_drop me'.na st]
                    simp
                  have hll : ∀ sig, parseMethodDescriptor (zOf Q me').desc = some sig → (((st.take me'.na).reverse).map (va (rho a n0 (P.al.length + 1)))).length = sig.parameters.length := lenOf hpar (by simp [hpl]; omega)
                  have hz1 : (lRoom Q m' me').cells = 0 := by simp [lRoom, hg0]
                  have hz2 : (lRoom Q m' me').slots = 0 := by simp [lRoom, hg0]
                  have hpre : ∀ vm₁, s₀.WarmedH vm₁ → ((((st.take me'.na).reverse).map (va (rho a n0 (P.al.length + 1)))).toArray = (((st.take me'.na).reverse).map (va (rho a n0 (P.al.length + 1)))).toArray ∧ (T.setVm vm₁).heap = T.heap ∧ lco P mi w + (lRoom Q m' me').cells ≤ (lRoom Q mi me).cells ∧ lzo P Q mi w + (lRoom Q m' me').slots ≤ (lRoom Q mi me).slots) := fun vm₁ _ => by
                    refine ⟨rfl, rfl, ?_, ?_⟩
                    · rw [hz1]; simp only [lco, lRoom] at *; split
                      · simpa using hc1
                      · exact Nat.le_refl _
                    · rw [hz2]; simp only [lzo, lRoom] at *; split
                      · simpa using hc2
                      · exact Nat.le_refl _
                  obtain ⟨v', vm₁, ⟨U, lo, ce, sl⟩, -, X', ⟨Lc, hQ, l1, l2, l3⟩, stp⟩ := Jvm.LawKit.callS X hx (y := zOf Q me') hown (mv hZ w1) (mv hZ w2) (mv hZ w3) (mv hZ hcode) LL.2.2.2.2.2.2.2 hB (g := mkF m pc L (st.map (va (rho a n0 (P.al.length + 1))))) rfl hsize hll hsm (by show 2 * 0 + _ ≤ _; rw [cats_va]; omega) hd hpre
                  dsimp only [Pt.U, Pt.locs, Pt.cells, Pt.slots] at X' hQ l1 l2 l3 stp
                  subst l1 l2 l3
                  obtain ⟨⟨rfl, hva⟩, hF', hI'⟩ := hQ
                  rw [hz1, hz2] at X'
                  have hcn := lexec_cnt _ _ _ _ _ _ _ _ _ hg0 hcl
                  have e1 : lco P mi w2' = lco P mi w := by simp only [lco, hcn]
                  have e2 : lzo P Q mi w2' = lzo P Q mi w := by simp only [lzo, hcn]
                  refine Don.step (fun t q => stp t ?_) (ihk p l e s₀ m args below meth cd U (locs ++ Lc) _ ls (v'.toList ++ st.drop me'.na) _ v w' L hx hZ hown hret hml hlk hs0 hdec hr' (by rw [e1, e2]; exact X') (by rw [hcn]; exact hc1) (by rw [hcn]; exact hc2) hI' (hFr.app hF') hL hlen)
                  rw [List.map_append, hva] at q; exact q
              · rw [if_neg hla] at hr; cases hr
            · cases hr
      -- the rest
      · split at hr
        · split at hr
          · rename_i u hu
            cases hr
            refine st_ret X hx hret hlk hu hd hn ⟨⟨rfl, cret_va hu⟩, hFr, I⟩ ?_ ?_
            · simp only [lco, lRoom] at *; split
              · simpa using hc1
              · exact Nat.le_refl _
            · simp only [lzo, lRoom] at *; split
              · simpa using hc2
              · exact Nat.le_refl _
          · cases hr
        · split at hr
          · rename_i pc' ls' st' hp
            obtain ⟨L', hL', hLs, st⟩ := pstep_sound X hx hp hd hn hL
            have hlen' : ls'.length = me.ml := by rw [← hL'.1, hLs, hL.1]; exact hlen
            exact Don.step st (ihk p l e s₀ m args below meth cd T locs _ ls' st' w v w' L' hx hZ hown hret hml hlk hs0 hdec hr X hc1 hc2 I hFr hL' hlen')
          · cases hr
/-- the law as a whole: what the machine returns, the program returns -/
theorem law_met {P : Cl} {Q : Lw} {sc : Sc} {Z : State} {a0 : Array Value} (LK : LinkC P Z a0) (LL : LinkL P Q Z a0) {a f : Nat} {me : Me} (hme : asc Q.ms 0 = some me) (l : Launch) {bytes : ByteArray} {ws : List Cond}
    (hdec : ∀ pc i n, fetch me.cd pc = some (i, n) → decode bytes pc = .ok (i, n) ∧ (isSw i = true ∨ n = ilen i))
    {as : List Value} (hnd : nd as = true) (hlen : (layA as).length ≤ me.ml) {v : Option Value} {w' : Wd} {h : Heap} (hr : lexec P Q sc f 0 me 0 (lay as me.ml) [] (fun _ => s0, 0, false) = some (v, w')) (hS : SRep Z h a h.size sc) :
    MetFree l (zOf Q me) (head1 (Cond.code (zOf Q me) bytes me.ml (retOf me.rt) :: ws) (lRoom Q 0 me)) (fun b U => b = (as.map (va (rho a h.size (P.al.length + 1)))).toArray ∧ Z.Warmed39 U.vm ∧ U.heap = h) (fun _ _ _ _ _ => True)
      (fun _ U o U' => ∃ u L, o = .returned u ∧ (u = v ∧ Fr h.size L) ∧ FrameEnd U o U' L Q.rc Q.rs) := by
  refine MetFree.of_bodySF (plainFor_of_name LL.2.2.2.2.2.2.1) hisR ?_
  intro p e s₀ m args below meth cd s₁ Bd hml hP hK
  obtain ⟨rfl, hZ, hh⟩ := hP
  have e0 : s₁.heap = h := by rw [← hh, Bd.state]; rfl
  have X0 : Stand p l e (lRoom Q 0 me) s₀ m _ below meth cd s₁ [] 0 0 := Stand.of_body Bd
  have hown : s₀.vm.findClass Q.nm = some m.cls := findClass_of_methodNamed Bd.named
  have hk0 : lco P 0 (fun _ => s0, 0, false) = 0 := by simp [lco]
  have hz0 : lzo P Q 0 (fun _ => s0, 0, false) = 0 := by simp [lzo]
  have D := lwalk LK LL (sc := sc) (a := a) (n0 := h.size) f 0 me hme p l e s₀ m _ below meth cd s₁ [] 0 (lay as me.ml) [] (fun _ => s0, 0, false) v w' _ Bd.exec hZ hown Bd.returns hml Bd.notSynchronized (fun _ => by rw [hh])
    (fun pc i n q => by rw [Bd.bytes]; exact hdec pc i n q) hr (by rw [hk0, hz0]; exact X0) (by simp) (by simp) (by
      rw [e0]; exact ⟨hS, fun o ho => absurd ho (Nat.not_lt_zero _), fun q => by simp at q, by simp⟩) (Fr.nil _) (lay_LR (nd_spec hnd) hlen) (lay_len hlen)
  obtain ⟨s₂, o, a1, a2, a3, u, L, a4, a5, a6⟩ := D
  refine ⟨s₂, o, a1, a2, a3, u, L, a4, ⟨a5.1.1, a5.2.1⟩, ?_⟩
  simpa [lRoom] using a6
end Jvm.LM

namespace Jvm.LM
open Sem ClassFile Op Lib Jvm.Stand Jvm.Free Jvm.LawKit Jvm.RoadKit
/-! what a run of the machine comes to -/
theorem cstep_mono {α : Type} {P : Cl} {mi : Nat} {me : Me} {rt : Option Value → St → Option α} {cl cl' : Nat → Nat → List Value → St → Rs} {k k' : Nat → Nat → Lv → List Value → St → Option α} {i : Instr} {c pc : Nat} {ls : Lv} {st : List Value} {s : St} {r : α}
    (hcl : ∀ m c as s r, cl m c as s = some r → cl' m c as s = some r) (hk : ∀ c pc ls st s r, k c pc ls st s = some r → k' c pc ls st s = some r) (h : cstep P mi me rt cl k i c pc ls st s = some r) : cstep P mi me rt cl' k' i c pc ls st s = some r := by
  unfold cstep at h ⊢
  split at h
  all_goals (try dsimp only)
  · split at h
    · split at h
      · exact hk _ _ _ _ _ _ h
      · cases h
    · cases h
  · split at h
    · split at h
      · exact hk _ _ _ _ _ _ h
      · cases h
    · cases h
  · split at h
    · exact hk _ _ _ _ _ _ h
    · cases h
  · split at h
    · exact hk _ _ _ _ _ _ h
    · cases h
  · split at h
    · exact hk _ _ _ _ _ _ h
    · cases h
  · split at h
    · exact hk _ _ _ _ _ _ h
    · cases h
  · split at h
    · exact hk _ _ _ _ _ _ h
    · cases h
  · split at h
    · exact hk _ _ _ _ _ _ h
    · cases h
  · split at h
    · rename_i q; rw [if_pos q]; exact hk _ _ _ _ _ _ h
    · cases h
  · split at h
    · exact hk _ _ _ _ _ _ h
    · cases h
  · split at h
    · exact hk _ _ _ _ _ _ h
    · cases h
  · split at h
    · split at h
      · rename_i q; rw [if_pos q]; exact hk _ _ _ _ _ _ h
      · cases h
    · cases h
  · split at h
    · cases h
    · rename_i m' hm'
      split at h
      · cases h
      · rename_i me' hme'
        split at h
        · rename_i r0 hst
          split at h
          · rename_i q
            rw [if_pos q]
            split at h
            · rename_i s1 hc; rw [hcl _ _ _ _ _ hc]; exact hk _ _ _ _ _ _ h
            · rename_i v1 s1 hc; rw [hcl _ _ _ _ _ hc]; exact hk _ _ _ _ _ _ h
            · cases h
          · cases h
        · cases h
  · split at h
    · rename_i q; rw [if_pos q]; exact h
    · rename_i q; rw [if_neg q]
      split at h
      · exact hk _ _ _ _ _ _ h
      · cases h
theorem cexec_succ {P : Cl} : ∀ f mi me c pc ls st s r, cexec P f mi me c pc ls st s = some r → cexec P (f + 1) mi me c pc ls st s = some r := by
  intro f
  induction f with
  | zero => intro mi me c pc ls st s r h; cases h
  | succ f ih =>
    intro mi me c pc ls st s r h
    rw [cexec] at h ⊢
    split at h
    · cases h
    · refine cstep_mono (fun m c as s r h => ?_) (fun c pc ls st s r h => ih _ _ _ _ _ _ _ _ h) h
      split at h
      · split at h
        · rename_i q; rw [if_pos q]; exact ih _ _ _ _ _ _ _ _ h
        · cases h
      · cases h
theorem cexec_le {P : Cl} {f g mi : Nat} {me : Me} {c pc : Nat} {ls : Lv} {st : List Value} {s : St} {r : Option Value × St} (hfg : f ≤ g) (h : cexec P f mi me c pc ls st s = some r) : cexec P g mi me c pc ls st s = some r := by
  obtain ⟨d, rfl⟩ := Nat.le.dest hfg
  induction d with
  | zero => exact h
  | succ d ih => exact cexec_succ _ _ _ _ _ _ _ _ _ (ih (Nat.le_add_right _ _))
theorem ccall_le {P : Cl} {f g m' c : Nat} {as : List Value} {s : St} {r : Option Value × St} (hfg : f ≤ g) (h : ccall P f m' c as s = some r) : ccall P g m' c as s = some r := by
  unfold ccall at h ⊢
  split at h
  · split at h
    · rename_i q; rw [if_pos q]; exact cexec_le hfg h
    · cases h
  · cases h
def wpc (P : Cl) (mi : Nat) (me : Me) (c pc : Nat) (ls : Lv) (st : List Value) (s : St) (Q : Option Value → St → Prop) : Prop := ∃ f v s', cexec P f mi me c pc ls st s = some (v, s') ∧ Q v s'
def cal (P : Cl) (m' c : Nat) (as : List Value) (s : St) (Q : Option Value → St → Prop) : Prop := ∃ f v s', ccall P f m' c as s = some (v, s') ∧ Q v s'
def calI (P : Cl) (m' c : Nat) (as : List Value) (s : St) (Q : Int32 → St → Prop) : Prop := cal P m' c as s fun r s' => ∃ v, r = some (.int v) ∧ Q v s'
def calL (P : Cl) (m' c : Nat) (as : List Value) (s : St) (Q : Int64 → St → Prop) : Prop := cal P m' c as s fun r s' => ∃ v, r = some (.long v) ∧ Q v s'
def calV (P : Cl) (m' c : Nat) (as : List Value) (s : St) (Q : St → Prop) : Prop := cal P m' c as s fun r s' => r = none ∧ Q s'
theorem cstep_nat {α : Type} {P : Cl} {mi : Nat} {me : Me} {k : Nat → Nat → Lv → List Value → St → Option α} {i : Instr} {c pc : Nat} {ls : Lv} {st : List Value} {s : St} {x : α}
    (h : cstep P mi me (fun _ _ => none) (fun _ _ _ _ => none) k i c pc ls st s = some x) : ∃ c' pc' ls' st' s', k c' pc' ls' st' s' = some x ∧ ∀ (β : Type) (rt : Option Value → St → Option β) cl (k' : Nat → Nat → Lv → List Value → St → Option β), cstep P mi me rt cl k' i c pc ls st s = k' c' pc' ls' st' s' := by
  unfold cstep at h
  split at h
  · split at h
    · split at h
      · rename_i q; exact ⟨_, _, _, _, _, h, fun β rt cl k' => by simp only [cstep, q]⟩
      · cases h
    · cases h
  · split at h
    · split at h
      · rename_i q; exact ⟨_, _, _, _, _, h, fun β rt cl k' => by simp only [cstep, q]⟩
      · cases h
    · cases h
  · split at h
    · rename_i q; exact ⟨_, _, _, _, _, h, fun β rt cl k' => by simp only [cstep, q]⟩
    · cases h
  · split at h
    · rename_i q; exact ⟨_, _, _, _, _, h, fun β rt cl k' => by simp only [cstep, q]⟩
    · cases h
  · split at h
    · rename_i q; exact ⟨_, _, _, _, _, h, fun β rt cl k' => by simp only [cstep, q]⟩
    · cases h
  · split at h
    · rename_i q; exact ⟨_, _, _, _, _, h, fun β rt cl k' => by simp only [cstep, q]⟩
    · cases h
  · split at h
    · rename_i q; exact ⟨_, _, _, _, _, h, fun β rt cl k' => by simp only [cstep, q]⟩
    · cases h
  · split at h
    · rename_i q; exact ⟨_, _, _, _, _, h, fun β rt cl k' => by simp only [cstep, q]⟩
    · cases h
  · split at h
    · rename_i q; exact ⟨_, _, _, _, _, h, fun β rt cl k' => by simp only [cstep]; rw [if_pos q]⟩
    · cases h
  · split at h
    · rename_i q; exact ⟨_, _, _, _, _, h, fun β rt cl k' => by simp only [cstep, q]⟩
    · cases h
  · split at h
    · rename_i q; exact ⟨_, _, _, _, _, h, fun β rt cl k' => by simp only [cstep, q]⟩
    · cases h
  · split at h
    · split at h
      · rename_i q; exact ⟨_, _, _, _, _, h, fun β rt cl k' => by simp only [cstep]; rw [if_pos q]⟩
      · cases h
    · cases h
  · split at h
    · cases h
    · split at h
      · cases h
      · split at h
        · split at h
          · cases h
          · cases h
        · cases h
  · rename_i n1 n2 n3 n4 n5 n6 n7 n8 n9 n10 n11 n12 n13
    split at h
    · split at h
      · cases h
      · split at h <;> cases h
    · rename_i hr
      split at h
      · rename_i pc' ls' st' hp
        refine ⟨_, _, _, _, _, h, fun β rt cl k' => ?_⟩
        unfold cstep
        split <;> first | (exfalso; first | exact n1 _ rfl | exact n2 _ rfl | exact n3 rfl | exact n4 rfl | exact n5 rfl | exact n6 rfl | exact n7 rfl | exact n8 rfl | exact n9 _ rfl | exact n10 _ rfl | exact n11 _ rfl | exact n12 _ rfl | exact n13 _ rfl) | skip
        rw [if_neg hr, hp]
      · cases h
def csl (P : Cl) (mi : Nat) (me : Me) : Nat → Nat → Nat → Lv → List Value → St → Option (Nat × Nat × Lv × List Value × St)
  | 0, c, pc, ls, st, s => some (c, pc, ls, st, s)
  | n + 1, c, pc, ls, st, s => match fetch me.cd pc with
    | none => none
    | some (i, _) => cstep P mi me (fun _ _ => none) (fun _ _ _ _ => none) (csl P mi me n) i c pc ls st s
theorem wpc_one {P : Cl} {mi : Nat} {me : Me} {c pc c' pc' : Nat} {ls ls' : Lv} {st st' : List Value} {s s' : St} {Q : Option Value → St → Prop} {i : Instr} {n : Nat} (hf : fetch me.cd pc = some (i, n))
    (h : ∀ (rt : Option Value → St → Rs) cl (k : Nat → Nat → Lv → List Value → St → Rs), cstep P mi me rt cl k i c pc ls st s = k c' pc' ls' st' s') (hq : wpc P mi me c' pc' ls' st' s' Q) : wpc P mi me c pc ls st s Q := by
  obtain ⟨f, v, s2, h1, h2⟩ := hq
  refine ⟨f + 1, v, s2, ?_, h2⟩
  rw [cexec, hf]; dsimp only; rw [h]; exact h1
theorem wpc_sl {P : Cl} {mi : Nat} {me : Me} {Q : Option Value → St → Prop} : ∀ {n c pc c' pc' : Nat} {ls ls' : Lv} {st st' : List Value} {s s' : St}, csl P mi me n c pc ls st s = some (c', pc', ls', st', s') → wpc P mi me c' pc' ls' st' s' Q → wpc P mi me c pc ls st s Q := by
  intro n
  induction n with
  | zero => intro c pc c' pc' ls ls' st st' s s' h hq; cases h; exact hq
  | succ n ih =>
    intro c pc c' pc' ls ls' st st' s s' h hq
    simp only [csl] at h
    split at h
    · cases h
    · rename_i i m hf
      obtain ⟨c1, pc1, ls1, st1, s1, h1, h2⟩ := cstep_nat h
      exact wpc_one hf (fun rt cl k => h2 _ rt cl k) (ih h1 hq)
theorem wpc_ret {P : Cl} {mi : Nat} {me : Me} {c pc : Nat} {ls : Lv} {st : List Value} {s : St} {Q : Option Value → St → Prop} {i : Instr} {n : Nat} {v : Option Value} (hf : fetch me.cd pc = some (i, n)) (hr : isRet i = true) (hc : mi = 0 → c = P.al.length) (h : cret me st i = some v) (hq : Q v s) : wpc P mi me c pc ls st s Q := by
  refine ⟨1, v, s, ?_, hq⟩
  rw [cexec, hf]; dsimp only
  have hc' : ¬ (mi = 0 ∧ c ≠ P.al.length) := fun q => q.2 (hc q.1)
  cases i <;> first | (cases hr; done) | (simp only [cstep]; rw [if_pos hr, if_neg hc', h])
theorem wpc_if {P : Cl} {mi : Nat} {me : Me} {c pc a b : Nat} {ls : Lv} {r : List Value} {s : St} {Q : Option Value → St → Prop} {cd : ClassFile.Cond} {o : Int} {n : Nat} {x : Int32} (hf : fetch me.cd pc = some (.ifCond cd o, n)) (ho : 0 ≤ (pc : Int) + o) (ha : jmp pc o = a) (hb : pc + 3 = b)
    (hq : wpc P mi me c (br cd x 0 a b) ls r s Q) : wpc P mi me c pc ls (.int x :: r) s Q := by
  subst ha hb
  refine wpc_one hf (fun rt cl k => ?_) hq
  show (match pstep (.ifCond cd o) pc ls (.int x :: r) with | some (pc', ls', st') => k c pc' ls' st' s | none => none) = _
  simp only [pstep, qstep]; rw [if_pos ho]
theorem wpc_icmp {P : Cl} {mi : Nat} {me : Me} {c pc a b : Nat} {ls : Lv} {r : List Value} {s : St} {Q : Option Value → St → Prop} {cd : ClassFile.Cond} {o : Int} {n : Nat} {x y : Int32} (hf : fetch me.cd pc = some (.if_icmp cd o, n)) (ho : 0 ≤ (pc : Int) + o) (ha : jmp pc o = a) (hb : pc + 3 = b)
    (hq : wpc P mi me c (br cd x y a b) ls r s Q) : wpc P mi me c pc ls (.int y :: .int x :: r) s Q := by
  subst ha hb
  refine wpc_one hf (fun rt cl k => ?_) hq
  show (match pstep (.if_icmp cd o) pc ls (.int y :: .int x :: r) with | some (pc', ls', st') => k c pc' ls' st' s | none => none) = _
  simp only [pstep, qstep]; rw [if_pos ho]
/-- the two roads of a branch -/
theorem wpc_br {P : Cl} {mi : Nat} {me : Me} {c a b : Nat} {ls : Lv} {st : List Value} {s : St} {Q : Option Value → St → Prop} {p : Prop} [Decidable p] (h : (p → wpc P mi me c a ls st s Q) ∧ (¬ p → wpc P mi me c b ls st s Q)) : wpc P mi me c (if p then a else b) ls st s Q := by
  by_cases hp : p
  · rw [if_pos hp]; exact h.1 hp
  · rw [if_neg hp]; exact h.2 hp
theorem wpc_lda {P : Cl} {mi : Nat} {me : Me} {c pc a tt N : Nat} {ls : Lv} {r : List Value} {s : St} {Q : Option Value → St → Prop} {i : Instr} {n : Nat} {j : Int32} (hf : fetch me.cd pc = some (i, n)) (hi : (tt = 0 ∧ i = .iaload) ∨ (tt = 1 ∧ i = .baload) ∨ (tt = 2 ∧ i = .laload)) (ha : P.al[a]? = some (tt, N)) (hac : a < c)
    (hj : inb N j) (hq : wpc P mi me c (pc + 1) ls (elv tt s (a + 1) (ix j) :: r) s Q) : wpc P mi me c pc ls (.int j :: .ref (a + 1) :: r) s Q := by
  have hl : lda P tt c (.int j :: .ref (a + 1) :: r) s = some (elv tt s (a + 1) (ix j) :: r) := by
    simp only [lda, ha]; rw [if_pos ⟨trivial, hac⟩, if_pos hj]; rfl
  refine wpc_one hf (fun rt cl k => ?_) hq
  rcases hi with ⟨rfl, rfl⟩ | ⟨rfl, rfl⟩ | ⟨rfl, rfl⟩ <;> simp only [cstep, hl]
theorem wpc_sta {P : Cl} {mi : Nat} {me : Me} {c pc a tt N : Nat} {ls : Lv} {r : List Value} {s s' : St} {Q : Option Value → St → Prop} {i : Instr} {n : Nat} {j : Int32} {v : Value} (hf : fetch me.cd pc = some (i, n)) (hi : (tt = 0 ∧ i = .iastore ∧ ∃ z, v = .int z ∧ s' = sI s (a + 1) (ix j) z) ∨ (tt = 1 ∧ i = .bastore ∧ ∃ z, v = .int z ∧ s' = sI s (a + 1) (ix j) (z &&& 1)) ∨ (tt = 2 ∧ i = .lastore ∧ ∃ z, v = .long z ∧ s' = sL s (a + 1) (ix j) z)) (ha : P.al[a]? = some (tt, N)) (hac : a < c)
    (hj : inb N j) (hq : wpc P mi me c (pc + 1) ls r s' Q) : wpc P mi me c pc ls (v :: .int j :: .ref (a + 1) :: r) s Q := by
  have hl : sta P tt c (v :: .int j :: .ref (a + 1) :: r) s = some (r, s') := by
    simp only [sta, ha]; rw [if_pos ⟨trivial, hac⟩, if_pos hj]
    rcases hi with ⟨rfl, -, z, rfl, rfl⟩ | ⟨rfl, -, z, rfl, rfl⟩ | ⟨rfl, -, z, rfl, rfl⟩ <;> rfl
  refine wpc_one hf (fun rt cl k => ?_) hq
  rcases hi with ⟨rfl, rfl, -⟩ | ⟨rfl, rfl, -⟩ | ⟨rfl, rfl, -⟩ <;> simp only [cstep, hl]
theorem wpc_call {P : Cl} {mi : Nat} {me me' : Me} {c pc x m' : Nat} {ls : Lv} {st r as : List Value} {s : St} {Q : Option Value → St → Prop} {n : Nat} (hf : fetch me.cd pc = some (.invokevirtual x, n)) (hm : asc P.mx x = some m') (hme : asc P.ms m' = some me') (hst : st.drop me'.na = .ref 0 :: r) (has : (st.take me'.na).reverse = as)
    (hg : m' ≠ 0 ∧ me'.rf + 1 ≤ me.rf ∧ cats r + (me'.ml + 11) + me'.rl ≤ me.rl ∧ nd (st.take me'.na) = true)
    (hq : cal P m' c (.ref 0 :: as) s fun v s' => wpc P mi me c (pc + 3) ls (v.toList ++ r) s' Q) : wpc P mi me c pc ls st s Q := by
  subst has
  obtain ⟨f1, v, s1, h1, f2, v2, s2, h2, h3⟩ := hq
  refine ⟨max f1 f2 + 1, v2, s2, ?_, h3⟩
  have h1' := ccall_le (Nat.le_max_left f1 f2) h1
  have h2' := cexec_le (Nat.le_max_right f1 f2) h2
  rw [cexec, hf]; dsimp only
  simp only [cstep, hm, hme, hst]
  rw [if_pos hg]
  simp only [ccall, hme] at h1'
  rw [h1']
  cases v <;> exact h2'
theorem cal_of {P : Cl} {m' c : Nat} {as : List Value} {s : St} {Q : Option Value → St → Prop} {me : Me} {ls : Lv} (hme : asc P.ms m' = some me) (hl : (layA as).length ≤ me.ml) (hls : lay as me.ml = ls) (h : wpc P m' me c 0 ls [] s Q) : cal P m' c as s Q := by
  subst hls
  obtain ⟨f, v, s', h1, h2⟩ := h
  refine ⟨f, v, s', ?_, h2⟩
  simp only [ccall, hme]; rw [if_pos hl]; exact h1
theorem cal.mono {P : Cl} {m' c : Nat} {as : List Value} {s : St} {Q Q' : Option Value → St → Prop} (h : cal P m' c as s Q) (hq : ∀ v s', Q v s' → Q' v s') : cal P m' c as s Q' := by
  obtain ⟨f, v, s', h1, h2⟩ := h; exact ⟨f, v, s', h1, hq _ _ h2⟩
theorem calI.mono {P : Cl} {m' c : Nat} {as : List Value} {s : St} {Q Q' : Int32 → St → Prop} (h : calI P m' c as s Q) (hq : ∀ v s', Q v s' → Q' v s') : calI P m' c as s Q' := cal.mono h fun _ _ ⟨v, e, q⟩ => ⟨v, e, hq _ _ q⟩
theorem calL.mono {P : Cl} {m' c : Nat} {as : List Value} {s : St} {Q Q' : Int64 → St → Prop} (h : calL P m' c as s Q) (hq : ∀ v s', Q v s' → Q' v s') : calL P m' c as s Q' := cal.mono h fun _ _ ⟨v, e, q⟩ => ⟨v, e, hq _ _ q⟩
theorem calV.mono {P : Cl} {m' c : Nat} {as : List Value} {s : St} {Q Q' : St → Prop} (h : calV P m' c as s Q) (hq : ∀ s', Q s' → Q' s') : calV P m' c as s Q' := cal.mono h fun _ _ ⟨e, q⟩ => ⟨e, hq _ q⟩
theorem wpc.mono {P : Cl} {mi : Nat} {me : Me} {c pc : Nat} {ls : Lv} {st : List Value} {s : St} {Q Q' : Option Value → St → Prop} (h : wpc P mi me c pc ls st s Q) (hq : ∀ v s', Q v s' → Q' v s') : wpc P mi me c pc ls st s Q' := by
  obtain ⟨f, v, s', h1, h2⟩ := h; exact ⟨f, v, s', h1, hq _ _ h2⟩
theorem wpc_callI {P : Cl} {mi : Nat} {me me' : Me} {c pc x m' : Nat} {ls : Lv} {st r as : List Value} {s : St} {Q : Option Value → St → Prop} {n : Nat} (hf : fetch me.cd pc = some (.invokevirtual x, n)) (hm : asc P.mx x = some m') (hme : asc P.ms m' = some me') (hst : st.drop me'.na = .ref 0 :: r) (has : (st.take me'.na).reverse = as)
    (hg : m' ≠ 0 ∧ me'.rf + 1 ≤ me.rf ∧ cats r + (me'.ml + 11) + me'.rl ≤ me.rl ∧ nd (st.take me'.na) = true)
    (hq : calI P m' c (.ref 0 :: as) s fun v s' => wpc P mi me c (pc + 3) ls (.int v :: r) s' Q) : wpc P mi me c pc ls st s Q :=
  wpc_call hf hm hme hst has hg (cal.mono hq fun _ _ ⟨v, e, q⟩ => by subst e; exact q)
theorem wpc_callL {P : Cl} {mi : Nat} {me me' : Me} {c pc x m' : Nat} {ls : Lv} {st r as : List Value} {s : St} {Q : Option Value → St → Prop} {n : Nat} (hf : fetch me.cd pc = some (.invokevirtual x, n)) (hm : asc P.mx x = some m') (hme : asc P.ms m' = some me') (hst : st.drop me'.na = .ref 0 :: r) (has : (st.take me'.na).reverse = as)
    (hg : m' ≠ 0 ∧ me'.rf + 1 ≤ me.rf ∧ cats r + (me'.ml + 11) + me'.rl ≤ me.rl ∧ nd (st.take me'.na) = true)
    (hq : calL P m' c (.ref 0 :: as) s fun v s' => wpc P mi me c (pc + 3) ls (.long v :: r) s' Q) : wpc P mi me c pc ls st s Q :=
  wpc_call hf hm hme hst has hg (cal.mono hq fun _ _ ⟨v, e, q⟩ => by subst e; exact q)
theorem wpc_callV {P : Cl} {mi : Nat} {me me' : Me} {c pc x m' : Nat} {ls : Lv} {st r as : List Value} {s : St} {Q : Option Value → St → Prop} {n : Nat} (hf : fetch me.cd pc = some (.invokevirtual x, n)) (hm : asc P.mx x = some m') (hme : asc P.ms m' = some me') (hst : st.drop me'.na = .ref 0 :: r) (has : (st.take me'.na).reverse = as)
    (hg : m' ≠ 0 ∧ me'.rf + 1 ≤ me.rf ∧ cats r + (me'.ml + 11) + me'.rl ≤ me.rl ∧ nd (st.take me'.na) = true)
    (hq : calV P m' c (.ref 0 :: as) s fun s' => wpc P mi me c (pc + 3) ls r s' Q) : wpc P mi me c pc ls st s Q :=
  wpc_call hf hm hme hst has hg (cal.mono hq fun _ _ ⟨e, q⟩ => by subst e; exact q)
/-- both roads of a value -/
theorem wp_val {p : Prop} [Decidable p] {α : Sort _} {F : α → Prop} {x y : α} (h : F (if p then x else y)) : (p → F x) ∧ (¬ p → F y) := ⟨fun q => by rw [if_pos q] at h; exact h, fun q => by rw [if_neg q] at h; exact h⟩
end Jvm.LM

namespace Jvm.LM
open Sem ClassFile Op Lib Jvm.Stand Jvm.Free Jvm.LawKit Jvm.RoadKit
/-! variables that are not read any more -/
def lle (a b : Lv) : Prop := a.length = b.length ∧ ∀ (k : Nat) (v : Value), a[k]? = some (some v) → b[k]? = some (some v)
def lle' : Lv → Lv → Prop
  | [], [] => True
  | none :: a, _ :: b => lle' a b
  | some v :: a, w :: b => w = some v ∧ lle' a b
  | _, _ => False
theorem lle_of {a b : Lv} (h : lle' a b) : lle a b := by
  induction a generalizing b with
  | nil => cases b with
    | nil => exact ⟨rfl, fun k v hk => hk⟩
    | cons y b => cases h
  | cons x a ih =>
    cases b with
    | nil => cases x <;> cases h
    | cons y b =>
      cases x with
      | none =>
        obtain ⟨h1, h2⟩ := ih (b := b) h
        refine ⟨by simp [h1], fun k v hk => ?_⟩
        cases k with
        | zero => simp at hk
        | succ k => simp at hk ⊢; exact h2 k v hk
      | some x =>
        obtain ⟨e, h⟩ := h
        obtain ⟨h1, h2⟩ := ih (b := b) h
        subst e
        refine ⟨by simp [h1], fun k v hk => ?_⟩
        cases k with
        | zero => exact hk
        | succ k => simp at hk ⊢; exact h2 k v hk
theorem clr_lle {a b : Lv} (h : lle a b) (i : Nat) : (clr a i).length = (clr b i).length ∧ ∀ k v, k ≠ i → (clr a i)[k]? = some (some v) → (clr b i)[k]? = some (some v) := by
  refine ⟨by rw [clr_len, clr_len]; exact h.1, fun k v hk hv => ?_⟩
  obtain ⟨q1, q2⟩ := clr_get hv
  have q3 := h.2 _ _ q1
  cases i with
  | zero => exact q3
  | succ j =>
    simp only [clr]
    split
    · rename_i x e
      rw [List.getElem?_set]
      split
      · rename_i e2; subst e2
        rw [q3] at e; cases e
        exact absurd rfl (q2 rfl)
      · exact q3
    · rename_i x e
      rw [List.getElem?_set]
      split
      · rename_i e2; subst e2
        rw [q3] at e; cases e
        exact absurd rfl (q2 rfl)
      · exact q3
    · exact q3
theorem stl_lle {a b a' : Lv} (h : lle a b) {i : Nat} {v : Value} (hs : stl a i v = some a') : ∃ b', stl b i v = some b' ∧ lle a' b' := by
  obtain ⟨c1, c2⟩ := clr_lle h i
  have hl := h.1
  have one : ∀ w : Value, ∀ k u, ((clr a i).set i (some w))[k]? = some (some u) → ((clr b i).set i (some w))[k]? = some (some u) := fun w k u hk => by
    rw [List.getElem?_set] at hk ⊢
    split
    · rename_i e; rw [if_pos e] at hk; rw [← c1]; exact hk
    · rename_i e; rw [if_neg e] at hk; exact c2 k u (fun q => e q.symm) hk
  unfold stl at hs ⊢
  split at hs
  · rename_i x
    split at hs
    · rename_i q
      cases hs
      refine ⟨((clr b i).set i (some (.long x))).set (i + 1) none, if_pos (by rw [← hl]; exact q), by simp [c1], fun k u hk => ?_⟩
      rw [List.getElem?_set] at hk ⊢
      split
      · rename_i e; rw [if_pos e] at hk; split at hk <;> simp at hk
      · rename_i e; rw [if_neg e] at hk; exact one _ k u hk
    · cases hs
  · split at hs
    · rename_i q
      cases hs
      exact ⟨(clr b i).set i (some v), if_pos (by rw [← hl]; exact q), by simp [c1], fun k u hk => one _ k u hk⟩
    · cases hs
theorem pstep_lle {i : Instr} {pc pc' : Nat} {ls l1 ls' : Lv} {st st' : List Value} (h : pstep i pc ls st = some (pc', l1, st')) (hl : lle ls ls') : ∃ l1', pstep i pc ls' st = some (pc', l1', st') ∧ lle l1 l1' := by
  unfold pstep at h ⊢
  split at h
  all_goals (try dsimp only)
  iterate 6
    · split at h
      · rename_i e; cases h; rw [hl.2 _ _ e]; exact ⟨_, rfl, hl⟩
      · cases h
  iterate 6
    · split at h
      · split at h
        · rename_i e; cases h
          obtain ⟨b', q1, q2⟩ := stl_lle hl e
          rw [q1]; exact ⟨_, rfl, q2⟩
        · cases h
      · cases h
  · split at h
    · rename_i e0
      split at h
      · rename_i e; cases h
        obtain ⟨b', q1, q2⟩ := stl_lle hl e
        rw [hl.2 _ _ e0]; dsimp only; rw [q1]; exact ⟨_, rfl, q2⟩
      · cases h
    · cases h
  · split at h
    · cases h; exact ⟨_, rfl, hl⟩
    · cases h
theorem cstep_lle {P : Cl} {mi : Nat} {me : Me} {rt : Option Value → St → Rs} {cl : Nat → Nat → List Value → St → Rs} {k : Nat → Nat → Lv → List Value → St → Rs} {i : Instr} {c pc : Nat} {ls ls' : Lv} {st : List Value} {s : St} {r : Option Value × St} (hl : lle ls ls')
    (hk : ∀ c pc ls ls' st s, lle ls ls' → k c pc ls st s = some r → k c pc ls' st s = some r) (h : cstep P mi me rt cl k i c pc ls st s = some r) : cstep P mi me rt cl k i c pc ls' st s = some r := by
  unfold cstep at h ⊢
  split at h
  all_goals (try dsimp only)
  · split at h
    · split at h
      · exact hk _ _ _ _ _ _ hl h
      · cases h
    · cases h
  · split at h
    · split at h
      · exact hk _ _ _ _ _ _ hl h
      · cases h
    · cases h
  iterate 6
    · split at h
      · exact hk _ _ _ _ _ _ hl h
      · cases h
  · split at h
    · rename_i q; rw [if_pos q]; exact hk _ _ _ _ _ _ hl h
    · cases h
  iterate 2
    · split at h
      · exact hk _ _ _ _ _ _ hl h
      · cases h
  · split at h
    · split at h
      · rename_i q; rw [if_pos q]; exact hk _ _ _ _ _ _ hl h
      · cases h
    · cases h
  · split at h
    · cases h
    · split at h
      · cases h
      · split at h
        · split at h
          · rename_i q
            rw [if_pos q]
            split at h
            · exact hk _ _ _ _ _ _ hl h
            · exact hk _ _ _ _ _ _ hl h
            · cases h
          · cases h
        · cases h
  · split at h
    · rename_i q; rw [if_pos q]; exact h
    · rename_i q; rw [if_neg q]
      split at h
      · rename_i e
        obtain ⟨l1', q1, q2⟩ := pstep_lle e hl
        rw [q1]; exact hk _ _ _ _ _ _ q2 h
      · cases h
theorem cexec_lle {P : Cl} : ∀ f mi me c pc ls ls' st s r, lle ls ls' → cexec P f mi me c pc ls st s = some r → cexec P f mi me c pc ls' st s = some r := by
  intro f
  induction f with
  | zero => intro mi me c pc ls ls' st s r _ h; cases h
  | succ f ih =>
    intro mi me c pc ls ls' st s r hl h
    rw [cexec] at h ⊢
    split at h
    · cases h
    · exact cstep_lle hl (fun c pc ls ls' st s hl h => ih _ _ _ _ _ _ _ _ _ hl h) h
theorem wpc_lle {P : Cl} {mi : Nat} {me : Me} {c pc : Nat} {ls ls' : Lv} {st : List Value} {s : St} {Q : Option Value → St → Prop} (hl : lle' ls ls') (h : wpc P mi me c pc ls st s Q) : wpc P mi me c pc ls' st s Q := by
  obtain ⟨f, v, s', h1, h2⟩ := h; exact ⟨f, v, s', cexec_lle _ _ _ _ _ _ _ _ _ _ (lle_of hl) h1, h2⟩
end Jvm.LM

namespace Jvm.LM
open Sem ClassFile Op Lib Jvm.Stand Jvm.Free Jvm.LawKit Jvm.RoadKit
theorem lstep_mono {α : Type} {P : Cl} {Q : Lw} {sc : Sc} {mi : Nat} {me : Me} {rt : Option Value → Wd → Option α} {cc cc' : Nat → Nat → List Value → St → Rs} {cl cl' : Nat → List Value → Wd → Rw} {k k' : Nat → Lv → List Value → Wd → Option α} {i : Instr} {pc : Nat} {ls : Lv} {st : List Value} {w : Wd} {r : α}
    (hcc : ∀ m c as s r, cc m c as s = some r → cc' m c as s = some r) (hcl : ∀ m as s r, cl m as s = some r → cl' m as s = some r) (hk : ∀ pc ls st s r, k pc ls st s = some r → k' pc ls st s = some r) (h : lstep P Q sc mi me rt cc cl k i pc ls st w = some r) : lstep P Q sc mi me rt cc' cl' k' i pc ls st w = some r := by
  unfold lstep at h ⊢
  split at h
  all_goals (try dsimp only)
  · split at h
    · split at h
      · rename_i q; rw [if_pos q]; exact hk _ _ _ _ _ h
      · cases h
    · cases h
  · split at h
    · exact hk _ _ _ _ _ h
    · cases h
  · split at h
    · exact hk _ _ _ _ _ h
    · cases h
  · split at h
    · exact hk _ _ _ _ _ h
    · cases h
  · split at h
    · rename_i q; rw [if_pos q]; exact hk _ _ _ _ _ h
    · cases h
  · split at h
    · cases h
    · split at h
      · split at h
        · rename_i q
          rw [if_pos q]
          split at h
          · rename_i s1 hc; rw [hcc _ _ _ _ _ hc]; exact hk _ _ _ _ _ h
          · cases h
        · cases h
      · cases h
  · split at h
    · cases h
    · split at h
      · cases h
      · split at h
        · split at h
          · rename_i q
            rw [if_pos q]
            split at h
            · rename_i s1 hc; rw [hcc _ _ _ _ _ hc]; exact hk _ _ _ _ _ h
            · rename_i v1 s1 hc; rw [hcc _ _ _ _ _ hc]; exact hk _ _ _ _ _ h
            · cases h
          · cases h
        · cases h
  · split at h
    · cases h
    · split at h
      · cases h
      · split at h
        · rename_i q
          rw [if_pos q]
          split at h
          · rename_i s1 hc; rw [hcl _ _ _ _ hc]; exact hk _ _ _ _ _ h
          · rename_i v1 s1 hc; rw [hcl _ _ _ _ hc]; exact hk _ _ _ _ _ h
          · cases h
        · cases h
  · split at h
    · rename_i q; rw [if_pos q]; exact h
    · rename_i q; rw [if_neg q]
      split at h
      · exact hk _ _ _ _ _ h
      · cases h
theorem lexec_succ {P : Cl} {Q : Lw} {sc : Sc} : ∀ f mi me pc ls st w r, lexec P Q sc f mi me pc ls st w = some r → lexec P Q sc (f + 1) mi me pc ls st w = some r := by
  intro f
  induction f with
  | zero => intro mi me pc ls st s r h; cases h
  | succ f ih =>
    intro mi me pc ls st s r h
    rw [lexec] at h ⊢
    split at h
    · cases h
    · refine lstep_mono (fun m c as s r h => ccall_le (Nat.le_succ _) h) (fun m as s r h => ?_) (fun pc ls st s r h => ih _ _ _ _ _ _ _ h) h
      split at h
      · split at h
        · rename_i q; rw [if_pos q]; exact ih _ _ _ _ _ _ _ h
        · cases h
      · cases h
theorem lexec_le {P : Cl} {Q : Lw} {sc : Sc} {f g mi : Nat} {me : Me} {pc : Nat} {ls : Lv} {st : List Value} {w : Wd} {r : Option Value × Wd} (hfg : f ≤ g) (h : lexec P Q sc f mi me pc ls st w = some r) : lexec P Q sc g mi me pc ls st w = some r := by
  obtain ⟨d, rfl⟩ := Nat.le.dest hfg
  induction d with
  | zero => exact h
  | succ d ih => exact lexec_succ _ _ _ _ _ _ _ _ (ih (Nat.le_add_right _ _))
theorem lcall_le {P : Cl} {Q : Lw} {sc : Sc} {f g m' : Nat} {as : List Value} {w : Wd} {r : Option Value × Wd} (hfg : f ≤ g) (h : lcall P Q sc f m' as w = some r) : lcall P Q sc g m' as w = some r := by
  unfold lcall at h ⊢
  split at h
  · split at h
    · rename_i q; rw [if_pos q]; exact lexec_le hfg h
    · cases h
  · cases h
def wpl (P : Cl) (Q : Lw) (sc : Sc) (mi : Nat) (me : Me) (pc : Nat) (ls : Lv) (st : List Value) (w : Wd) (R : Option Value → Wd → Prop) : Prop := ∃ f v w', lexec P Q sc f mi me pc ls st w = some (v, w') ∧ R v w'
def lal (P : Cl) (Q : Lw) (sc : Sc) (m' : Nat) (as : List Value) (w : Wd) (R : Option Value → Wd → Prop) : Prop := ∃ f v w', lcall P Q sc f m' as w = some (v, w') ∧ R v w'
def lalI (P : Cl) (Q : Lw) (sc : Sc) (m' : Nat) (as : List Value) (w : Wd) (R : Int32 → Wd → Prop) : Prop := lal P Q sc m' as w fun r w' => ∃ v, r = some (.int v) ∧ R v w'
def lalL (P : Cl) (Q : Lw) (sc : Sc) (m' : Nat) (as : List Value) (w : Wd) (R : Int64 → Wd → Prop) : Prop := lal P Q sc m' as w fun r w' => ∃ v, r = some (.long v) ∧ R v w'
def lalV (P : Cl) (Q : Lw) (sc : Sc) (m' : Nat) (as : List Value) (w : Wd) (R : Wd → Prop) : Prop := lal P Q sc m' as w fun r w' => r = none ∧ R w'
theorem lal.mono {P : Cl} {Q : Lw} {sc : Sc} {m' : Nat} {as : List Value} {w : Wd} {R R' : Option Value → Wd → Prop} (h : lal P Q sc m' as w R) (hq : ∀ v s', R v s' → R' v s') : lal P Q sc m' as w R' := by
  obtain ⟨f, v, s', h1, h2⟩ := h; exact ⟨f, v, s', h1, hq _ _ h2⟩
theorem lalI.mono {P : Cl} {Q : Lw} {sc : Sc} {m' : Nat} {as : List Value} {w : Wd} {R R' : Int32 → Wd → Prop} (h : lalI P Q sc m' as w R) (hq : ∀ v s', R v s' → R' v s') : lalI P Q sc m' as w R' := lal.mono h fun _ _ ⟨v, e, q⟩ => ⟨v, e, hq _ _ q⟩
theorem lalL.mono {P : Cl} {Q : Lw} {sc : Sc} {m' : Nat} {as : List Value} {w : Wd} {R R' : Int64 → Wd → Prop} (h : lalL P Q sc m' as w R) (hq : ∀ v s', R v s' → R' v s') : lalL P Q sc m' as w R' := lal.mono h fun _ _ ⟨v, e, q⟩ => ⟨v, e, hq _ _ q⟩
theorem lalV.mono {P : Cl} {Q : Lw} {sc : Sc} {m' : Nat} {as : List Value} {w : Wd} {R R' : Wd → Prop} (h : lalV P Q sc m' as w R) (hq : ∀ s', R s' → R' s') : lalV P Q sc m' as w R' := lal.mono h fun _ _ ⟨e, q⟩ => ⟨e, hq _ q⟩
theorem wpl.mono {P : Cl} {Q : Lw} {sc : Sc} {mi : Nat} {me : Me} {pc : Nat} {ls : Lv} {st : List Value} {w : Wd} {R R' : Option Value → Wd → Prop} (h : wpl P Q sc mi me pc ls st w R) (hq : ∀ v s', R v s' → R' v s') : wpl P Q sc mi me pc ls st w R' := by
  obtain ⟨f, v, s', h1, h2⟩ := h; exact ⟨f, v, s', h1, hq _ _ h2⟩
theorem wpl_one {P : Cl} {Q : Lw} {sc : Sc} {mi : Nat} {me : Me} {pc pc' : Nat} {ls ls' : Lv} {st st' : List Value} {w w' : Wd} {R : Option Value → Wd → Prop} {i : Instr} {n : Nat} (hf : fetch me.cd pc = some (i, n))
    (h : ∀ (rt : Option Value → Wd → Rw) cc cl (k : Nat → Lv → List Value → Wd → Rw), lstep P Q sc mi me rt cc cl k i pc ls st w = k pc' ls' st' w') (hq : wpl P Q sc mi me pc' ls' st' w' R) : wpl P Q sc mi me pc ls st w R := by
  obtain ⟨f, v, s2, h1, h2⟩ := hq
  refine ⟨f + 1, v, s2, ?_, h2⟩
  rw [lexec, hf]; dsimp only; rw [h]; exact h1
/-- plain steps: nothing of the heap, no call -/
def isPl : Instr → Bool
  | .iaload => false | .arraylength => false | .ldc _ => false | .ldc2_w _ => false | .new _ => false | .invokespecial _ => false | .invokevirtual _ => false | .invokestatic _ => false
  | .ireturn => false | .lreturn => false | .return_ => false
  | _ => true
theorem lstep_pl {α : Type} {P : Cl} {Q : Lw} {sc : Sc} {mi : Nat} {me : Me} {rt : Option Value → Wd → Option α} {cc : Nat → Nat → List Value → St → Rs} {cl : Nat → List Value → Wd → Rw} {k : Nat → Lv → List Value → Wd → Option α} {i : Instr} {pc : Nat} {ls : Lv} {st : List Value} {w : Wd} (hi : isPl i = true) :
    lstep P Q sc mi me rt cc cl k i pc ls st w = match pstep i pc ls st with | some (pc', ls', st') => k pc' ls' st' w | none => none := by
  cases i <;> first | (cases hi; done) | rfl
def psl (kx : List (Nat × Value)) (cd : Cd) : Nat → Nat → Lv → List Value → Option (Nat × Lv × List Value)
  | 0, pc, ls, st => some (pc, ls, st)
  | n + 1, pc, ls, st => match fetch cd pc with
    | none => none
    | some (i, _) => match i with
      | .ldc x => (match asc kx x with | some (.int z) => psl kx cd n (pc + 2) ls (.int z :: st) | _ => none)
      | .ldc2_w x => (match asc kx x with | some (.long z) => psl kx cd n (pc + 3) ls (.long z :: st) | _ => none)
      | i => if isPl i = true then (match pstep i pc ls st with | some (pc', ls', st') => psl kx cd n pc' ls' st' | none => none) else none
theorem wpl_sl {P : Cl} {Q : Lw} {sc : Sc} {mi : Nat} {me : Me} {w : Wd} {R : Option Value → Wd → Prop} : ∀ {n pc pc' : Nat} {ls ls' : Lv} {st st' : List Value}, psl Q.kx me.cd n pc ls st = some (pc', ls', st') → wpl P Q sc mi me pc' ls' st' w R → wpl P Q sc mi me pc ls st w R := by
  intro n
  induction n with
  | zero => intro pc pc' ls ls' st st' h hq; cases h; exact hq
  | succ n ih =>
    intro pc pc' ls ls' st st' h hq
    simp only [psl] at h
    split at h
    · cases h
    · rename_i i m hf
      split at h
      · split at h
        · rename_i z e
          exact wpl_one hf (fun rt cc cl k => by simp only [lstep, e]) (ih h hq)
        · cases h
      · split at h
        · rename_i z e
          exact wpl_one hf (fun rt cc cl k => by simp only [lstep, e]) (ih h hq)
        · cases h
      · split at h
        · rename_i hi
          split at h
          · rename_i pc1 ls1 st1 e
            exact wpl_one hf (fun rt cc cl k => by rw [lstep_pl hi, e]) (ih h hq)
          · cases h
        · cases h
theorem wpl_ret {P : Cl} {Q : Lw} {sc : Sc} {mi : Nat} {me : Me} {pc : Nat} {ls : Lv} {st : List Value} {w : Wd} {R : Option Value → Wd → Prop} {i : Instr} {n : Nat} {v : Option Value} (hf : fetch me.cd pc = some (i, n)) (hr : isRet i = true) (h : cret me st i = some v) (hq : R v w) : wpl P Q sc mi me pc ls st w R := by
  refine ⟨1, v, w, ?_, hq⟩
  rw [lexec, hf]; dsimp only
  cases i <;> first | (cases hr; done) | (simp only [lstep]; rw [if_pos hr, h])
theorem wpl_if {P : Cl} {Q : Lw} {sc : Sc} {mi : Nat} {me : Me} {pc a b : Nat} {ls : Lv} {r : List Value} {w : Wd} {R : Option Value → Wd → Prop} {cd : ClassFile.Cond} {o : Int} {n : Nat} {x : Int32} (hf : fetch me.cd pc = some (.ifCond cd o, n)) (ho : 0 ≤ (pc : Int) + o) (ha : jmp pc o = a) (hb : pc + 3 = b)
    (hq : wpl P Q sc mi me (br cd x 0 a b) ls r w R) : wpl P Q sc mi me pc ls (.int x :: r) w R := by
  subst ha hb
  refine wpl_one hf (fun rt cc cl k => ?_) hq
  rw [lstep_pl rfl]
  simp only [pstep, qstep]; rw [if_pos ho]
theorem wpl_icmp {P : Cl} {Q : Lw} {sc : Sc} {mi : Nat} {me : Me} {pc a b : Nat} {ls : Lv} {r : List Value} {w : Wd} {R : Option Value → Wd → Prop} {cd : ClassFile.Cond} {o : Int} {n : Nat} {x y : Int32} (hf : fetch me.cd pc = some (.if_icmp cd o, n)) (ho : 0 ≤ (pc : Int) + o) (ha : jmp pc o = a) (hb : pc + 3 = b)
    (hq : wpl P Q sc mi me (br cd x y a b) ls r w R) : wpl P Q sc mi me pc ls (.int y :: .int x :: r) w R := by
  subst ha hb
  refine wpl_one hf (fun rt cc cl k => ?_) hq
  rw [lstep_pl rfl]
  simp only [pstep, qstep]; rw [if_pos ho]
theorem wpl_br {P : Cl} {Q : Lw} {sc : Sc} {mi : Nat} {me : Me} {a b : Nat} {ls : Lv} {st : List Value} {w : Wd} {R : Option Value → Wd → Prop} {p : Prop} [Decidable p] (h : (p → wpl P Q sc mi me a ls st w R) ∧ (¬ p → wpl P Q sc mi me b ls st w R)) : wpl P Q sc mi me (if p then a else b) ls st w R := by
  by_cases hp : p
  · rw [if_pos hp]; exact h.1 hp
  · rw [if_neg hp]; exact h.2 hp
theorem wpl_lda {P : Cl} {Q : Lw} {N : Nat} {g : Nat → Int32} {mi : Nat} {me : Me} {pc : Nat} {ls : Lv} {r : List Value} {w : Wd} {R : Option Value → Wd → Prop} {n : Nat} {j : Int32} (hf : fetch me.cd pc = some (.iaload, n)) (hj : inb N j) (hq : wpl P Q (some (N, g)) mi me (pc + 1) ls (.int (g (ix j)) :: r) w R) : wpl P Q (some (N, g)) mi me pc ls (.int j :: .ref 0 :: r) w R := by
  refine wpl_one hf (fun rt cc cl k => ?_) hq
  simp only [lstep]; rw [if_pos hj]
theorem wpl_len {P : Cl} {Q : Lw} {N : Nat} {g : Nat → Int32} {mi : Nat} {me : Me} {pc : Nat} {ls : Lv} {r : List Value} {w : Wd} {R : Option Value → Wd → Prop} {n : Nat} (hf : fetch me.cd pc = some (.arraylength, n)) (hq : wpl P Q (some (N, g)) mi me (pc + 1) ls (.int (Int32.ofNat N) :: r) w R) : wpl P Q (some (N, g)) mi me pc ls (.ref 0 :: r) w R := by
  refine wpl_one hf (fun rt cc cl k => ?_) hq
  simp only [lstep]
theorem wpl_new {P : Cl} {Q : Lw} {sc : Sc} {me : Me} {pc cnt : Nat} {ls : Lv} {st : List Value} {os : Nat → St} {R : Option Value → Wd → Prop} {n x : Nat} (hf : fetch me.cd pc = some (.new x, n)) (hx : x = Q.cx) (h1 : (cnt + 1) * (P.al.length + 1) ≤ Q.rc) (h2 : (cnt + 1) * (Q.nf + zs P.al P.al.length) ≤ Q.rs)
    (hq : wpl P Q sc 0 me (pc + 3) ls (.ref (cnt + 1) :: st) (uo os cnt s0, cnt, true) R) : wpl P Q sc 0 me pc ls st (os, cnt, false) R := by
  refine wpl_one hf (fun rt cc cl k => ?_) hq
  simp only [lstep]; rw [if_pos ⟨trivial, hx, trivial, h1, h2⟩]
theorem wpl_ctor {P : Cl} {Q : Lw} {sc : Sc} {me me' : Me} {pc cnt : Nat} {ls : Lv} {st r as : List Value} {os : Nat → St} {R : Option Value → Wd → Prop} {n x : Nat} (hf : fetch me.cd pc = some (.invokespecial x, n)) (hx : x = Q.ci) (hme : asc P.ms 0 = some me') (hst : st.drop me'.na = .ref (cnt + 1) :: r) (has : (st.take me'.na).reverse = as)
    (hg : me'.rf + 1 ≤ me.rf ∧ cats r + (me'.ml + 11) + me'.rl ≤ me.rl ∧ nr (st.take me'.na) = true ∧ (cnt + 1) * (P.al.length + 1) ≤ Q.rc ∧ (cnt + 1) * (Q.nf + zs P.al P.al.length) ≤ Q.rs)
    (hq : calV P 0 0 (.ref 0 :: as) (os cnt) fun s' => wpl P Q sc 0 me (pc + 3) ls r (uo os cnt s', cnt + 1, false) R) : wpl P Q sc 0 me pc ls st (os, cnt, true) R := by
  subst has
  obtain ⟨f1, v, s1, h1, rfl, f2, v2, s2, h2, h3⟩ := hq
  refine ⟨max f1 f2 + 1, v2, s2, ?_, h3⟩
  have h1' := ccall_le (Nat.le_max_left f1 f2) h1
  have h2' := lexec_le (Nat.le_max_right f1 f2) h2
  rw [lexec, hf]; dsimp only
  simp only [lstep, hme, hst]
  rw [if_pos ⟨hx, trivial, trivial, trivial, hg⟩, h1']
  exact h2'
theorem wpl_call {P : Cl} {Q : Lw} {sc : Sc} {mi : Nat} {me me' : Me} {pc x m' o : Nat} {ls : Lv} {st r as : List Value} {w : Wd} {R : Option Value → Wd → Prop} {n : Nat} (hf : fetch me.cd pc = some (.invokevirtual x, n)) (hm : asc Q.vx x = some m') (hme : asc P.ms m' = some me') (hst : st.drop me'.na = .ref (o + 1) :: r) (has : (st.take me'.na).reverse = as)
    (hg : m' ≠ 0 ∧ o < w.2.1 ∧ me'.rf + 1 ≤ me.rf ∧ cats r + (me'.ml + 11) + me'.rl ≤ me.rl ∧ nr (st.take me'.na) = true)
    (hq : cal P m' P.al.length (.ref 0 :: as) (w.1 o) fun v s' => wpl P Q sc mi me (pc + 3) ls (v.toList ++ r) (uo w.1 o s', w.2.1, w.2.2) R) : wpl P Q sc mi me pc ls st w R := by
  subst has
  obtain ⟨f1, v, s1, h1, f2, v2, s2, h2, h3⟩ := hq
  refine ⟨max f1 f2 + 1, v2, s2, ?_, h3⟩
  have h1' := ccall_le (Nat.le_max_left f1 f2) h1
  have h2' := lexec_le (Nat.le_max_right f1 f2) h2
  rw [lexec, hf]; dsimp only
  simp only [lstep, hm, hme, hst]
  rw [if_pos hg, h1']
  cases v <;> exact h2'
theorem wpl_stat {P : Cl} {Q : Lw} {sc : Sc} {mi : Nat} {me me' : Me} {pc x m' : Nat} {ls : Lv} {st r as : List Value} {w : Wd} {R : Option Value → Wd → Prop} {n : Nat} (hf : fetch me.cd pc = some (.invokestatic x, n)) (hm : asc Q.sx x = some m') (hme : asc Q.ms m' = some me') (hst : st.drop me'.na = r) (has : (st.take me'.na).reverse = as)
    (hg : m' ≠ 0 ∧ me'.na ≤ st.length ∧ me'.rf + 1 ≤ me.rf ∧ cats r + (me'.ml + 11) + me'.rl ≤ me.rl ∧ nd (st.take me'.na) = true)
    (hq : lal P Q sc m' as w fun v w' => wpl P Q sc mi me (pc + 3) ls (v.toList ++ r) w' R) : wpl P Q sc mi me pc ls st w R := by
  subst has hst
  obtain ⟨f1, v, s1, h1, f2, v2, s2, h2, h3⟩ := hq
  refine ⟨max f1 f2 + 1, v2, s2, ?_, h3⟩
  have h1' := lcall_le (Nat.le_max_left f1 f2) h1
  have h2' := lexec_le (Nat.le_max_right f1 f2) h2
  rw [lexec, hf]; dsimp only
  simp only [lstep, hm, hme]
  rw [if_pos hg]
  simp only [lcall, hme] at h1'
  rw [h1']
  cases v <;> exact h2'
theorem lal_of {P : Cl} {Q : Lw} {sc : Sc} {m' : Nat} {as : List Value} {w : Wd} {R : Option Value → Wd → Prop} {me : Me} {ls : Lv} (hme : asc Q.ms m' = some me) (hl : (layA as).length ≤ me.ml) (hls : lay as me.ml = ls) (h : wpl P Q sc m' me 0 ls [] w R) : lal P Q sc m' as w R := by
  subst hls
  obtain ⟨f, v, s', h1, h2⟩ := h
  refine ⟨f, v, s', ?_, h2⟩
  simp only [lcall, hme]; rw [if_pos hl]; exact h1
theorem lstep_lle {P : Cl} {Q : Lw} {sc : Sc} {mi : Nat} {me : Me} {rt : Option Value → Wd → Rw} {cc : Nat → Nat → List Value → St → Rs} {cl : Nat → List Value → Wd → Rw} {k : Nat → Lv → List Value → Wd → Rw} {i : Instr} {pc : Nat} {ls ls' : Lv} {st : List Value} {w : Wd} {r : Option Value × Wd} (hl : lle ls ls')
    (hk : ∀ pc ls ls' st s, lle ls ls' → k pc ls st s = some r → k pc ls' st s = some r) (h : lstep P Q sc mi me rt cc cl k i pc ls st w = some r) : lstep P Q sc mi me rt cc cl k i pc ls' st w = some r := by
  unfold lstep at h ⊢
  split at h
  all_goals (try dsimp only)
  · split at h
    · split at h
      · rename_i q; rw [if_pos q]; exact hk _ _ _ _ _ hl h
      · cases h
    · cases h
  iterate 3
    · split at h
      · exact hk _ _ _ _ _ hl h
      · cases h
  · split at h
    · rename_i q; rw [if_pos q]; exact hk _ _ _ _ _ hl h
    · cases h
  · split at h
    · cases h
    · split at h
      · split at h
        · rename_i q
          rw [if_pos q]
          split at h
          · exact hk _ _ _ _ _ hl h
          · cases h
        · cases h
      · cases h
  · split at h
    · cases h
    · split at h
      · cases h
      · split at h
        · split at h
          · rename_i q
            rw [if_pos q]
            split at h
            · exact hk _ _ _ _ _ hl h
            · exact hk _ _ _ _ _ hl h
            · cases h
          · cases h
        · cases h
  · split at h
    · cases h
    · split at h
      · cases h
      · split at h
        · rename_i q
          rw [if_pos q]
          split at h
          · exact hk _ _ _ _ _ hl h
          · exact hk _ _ _ _ _ hl h
          · cases h
        · cases h
  · split at h
    · rename_i q; rw [if_pos q]; exact h
    · rename_i q; rw [if_neg q]
      split at h
      · rename_i e
        obtain ⟨l1', q1, q2⟩ := pstep_lle e hl
        rw [q1]; exact hk _ _ _ _ _ q2 h
      · cases h
theorem lexec_lle {P : Cl} {Q : Lw} {sc : Sc} : ∀ f mi me pc ls ls' st w r, lle ls ls' → lexec P Q sc f mi me pc ls st w = some r → lexec P Q sc f mi me pc ls' st w = some r := by
  intro f
  induction f with
  | zero => intro mi me pc ls ls' st w r _ h; cases h
  | succ f ih =>
    intro mi me pc ls ls' st w r hl h
    rw [lexec] at h ⊢
    split at h
    · cases h
    · exact lstep_lle hl (fun pc ls ls' st s hl h => ih _ _ _ _ _ _ _ _ hl h) h
theorem wpl_lle {P : Cl} {Q : Lw} {sc : Sc} {mi : Nat} {me : Me} {pc : Nat} {ls ls' : Lv} {st : List Value} {w : Wd} {R : Option Value → Wd → Prop} (hl : lle' ls ls') (h : wpl P Q sc mi me pc ls st w R) : wpl P Q sc mi me pc ls' st w R := by
  obtain ⟨f, v, s', h1, h2⟩ := h; exact ⟨f, v, s', lexec_lle _ _ _ _ _ _ _ _ _ (lle_of hl) h1, h2⟩
/-! worlds of no, one and two objects -/
def W0 : Wd := (fun _ => s0, 0, false)
def W0p : Wd := (uo (fun _ => s0) 0 s0, 0, true)
def W1 (s : St) : Wd := (uo (fun _ => s0) 0 s, 1, false)
def W1p (s : St) : Wd := (uo (uo (fun _ => s0) 0 s) 1 s0, 1, true)
def W2 (s t : St) : Wd := (uo (uo (fun _ => s0) 0 s) 1 t, 2, false)
theorem uo_uo (f : Nat → St) (o : Nat) (s t : St) : uo (uo f o s) o t = uo f o t := by
  funext i; simp only [uo]; split <;> rfl
theorem uo_swap (f : Nat → St) {o o' : Nat} (h : o ≠ o') (s t : St) : uo (uo f o s) o' t = uo (uo f o' t) o s := by
  funext i; simp only [uo]
  by_cases a : i = o
  · subst a; simp [h]
  · by_cases b : i = o'
    · subst b; simp [Ne.symm h]
    · simp [a, b]
section Worlds
variable {P : Cl} {Q : Lw} {sc : Sc} {mi : Nat} {me me' : Me} {pc x m' : Nat} {ls : Lv} {st r as : List Value} {R : Option Value → Wd → Prop} {n : Nat} {s t : St}
theorem wpl_new0 (hf : fetch me.cd pc = some (.new x, n)) (hx : x = Q.cx) (h1 : 1 * (P.al.length + 1) ≤ Q.rc) (h2 : 1 * (Q.nf + zs P.al P.al.length) ≤ Q.rs) (hq : wpl P Q sc 0 me (pc + 3) ls (.ref 1 :: st) W0p R) : wpl P Q sc 0 me pc ls st W0 R := wpl_new (cnt := 0) hf hx h1 h2 hq
theorem wpl_new1 (hf : fetch me.cd pc = some (.new x, n)) (hx : x = Q.cx) (h1 : 2 * (P.al.length + 1) ≤ Q.rc) (h2 : 2 * (Q.nf + zs P.al P.al.length) ≤ Q.rs) (hq : wpl P Q sc 0 me (pc + 3) ls (.ref 2 :: st) (W1p s) R) : wpl P Q sc 0 me pc ls st (W1 s) R := wpl_new (cnt := 1) hf hx h1 h2 hq
theorem wpl_ctor0 (hf : fetch me.cd pc = some (.invokespecial x, n)) (hx : x = Q.ci) (hme : asc P.ms 0 = some me') (hst : st.drop me'.na = .ref 1 :: r) (has : (st.take me'.na).reverse = as)
    (hg : me'.rf + 1 ≤ me.rf ∧ cats r + (me'.ml + 11) + me'.rl ≤ me.rl ∧ nr (st.take me'.na) = true ∧ 1 * (P.al.length + 1) ≤ Q.rc ∧ 1 * (Q.nf + zs P.al P.al.length) ≤ Q.rs)
    (hq : calV P 0 0 (.ref 0 :: as) s0 fun s' => wpl P Q sc 0 me (pc + 3) ls r (W1 s') R) : wpl P Q sc 0 me pc ls st W0p R := by
  refine wpl_ctor (cnt := 0) hf hx hme hst has hg ?_
  refine calV.mono (show calV P 0 0 (.ref 0 :: as) (uo (fun _ => s0) 0 s0 0) _ from hq) fun s' h => ?_
  rw [uo_uo]; exact h
theorem wpl_ctor1 (hf : fetch me.cd pc = some (.invokespecial x, n)) (hx : x = Q.ci) (hme : asc P.ms 0 = some me') (hst : st.drop me'.na = .ref 2 :: r) (has : (st.take me'.na).reverse = as)
    (hg : me'.rf + 1 ≤ me.rf ∧ cats r + (me'.ml + 11) + me'.rl ≤ me.rl ∧ nr (st.take me'.na) = true ∧ 2 * (P.al.length + 1) ≤ Q.rc ∧ 2 * (Q.nf + zs P.al P.al.length) ≤ Q.rs)
    (hq : calV P 0 0 (.ref 0 :: as) s0 fun s' => wpl P Q sc 0 me (pc + 3) ls r (W2 s s') R) : wpl P Q sc 0 me pc ls st (W1p s) R := by
  refine wpl_ctor (cnt := 1) hf hx hme hst has hg ?_
  refine calV.mono (show calV P 0 0 (.ref 0 :: as) (uo (uo (fun _ => s0) 0 s) 1 s0 1) _ from hq) fun s' h => ?_
  rw [uo_uo]; exact h
theorem wpl_v1 (hf : fetch me.cd pc = some (.invokevirtual x, n)) (hm : asc Q.vx x = some m') (hme : asc P.ms m' = some me') (hst : st.drop me'.na = .ref 1 :: r) (has : (st.take me'.na).reverse = as)
    (hg : m' ≠ 0 ∧ me'.rf + 1 ≤ me.rf ∧ cats r + (me'.ml + 11) + me'.rl ≤ me.rl ∧ nr (st.take me'.na) = true)
    (hq : cal P m' P.al.length (.ref 0 :: as) s fun v s' => wpl P Q sc mi me (pc + 3) ls (v.toList ++ r) (W1 s') R) : wpl P Q sc mi me pc ls st (W1 s) R := by
  refine wpl_call (o := 0) hf hm hme hst has ⟨hg.1, by show 0 < 1; decide, hg.2⟩ ?_
  refine cal.mono (show cal P m' P.al.length (.ref 0 :: as) ((W1 s).1 0) _ from hq) fun v s' h => ?_
  show wpl P Q sc mi me (pc + 3) ls (v.toList ++ r) (uo (uo (fun _ => s0) 0 s) 0 s', 1, false) R
  rw [uo_uo]; exact h
theorem wpl_v2a (hf : fetch me.cd pc = some (.invokevirtual x, n)) (hm : asc Q.vx x = some m') (hme : asc P.ms m' = some me') (hst : st.drop me'.na = .ref 1 :: r) (has : (st.take me'.na).reverse = as)
    (hg : m' ≠ 0 ∧ me'.rf + 1 ≤ me.rf ∧ cats r + (me'.ml + 11) + me'.rl ≤ me.rl ∧ nr (st.take me'.na) = true)
    (hq : cal P m' P.al.length (.ref 0 :: as) s fun v s' => wpl P Q sc mi me (pc + 3) ls (v.toList ++ r) (W2 s' t) R) : wpl P Q sc mi me pc ls st (W2 s t) R := by
  refine wpl_call (o := 0) hf hm hme hst has ⟨hg.1, by show 0 < 2; decide, hg.2⟩ ?_
  refine cal.mono (show cal P m' P.al.length (.ref 0 :: as) ((W2 s t).1 0) _ from hq) fun v s' h => ?_
  show wpl P Q sc mi me (pc + 3) ls (v.toList ++ r) (uo (uo (uo (fun _ => s0) 0 s) 1 t) 0 s', 2, false) R
  rw [uo_swap _ (by decide), uo_uo]; exact h
theorem wpl_v2b (hf : fetch me.cd pc = some (.invokevirtual x, n)) (hm : asc Q.vx x = some m') (hme : asc P.ms m' = some me') (hst : st.drop me'.na = .ref 2 :: r) (has : (st.take me'.na).reverse = as)
    (hg : m' ≠ 0 ∧ me'.rf + 1 ≤ me.rf ∧ cats r + (me'.ml + 11) + me'.rl ≤ me.rl ∧ nr (st.take me'.na) = true)
    (hq : cal P m' P.al.length (.ref 0 :: as) t fun v s' => wpl P Q sc mi me (pc + 3) ls (v.toList ++ r) (W2 s s') R) : wpl P Q sc mi me pc ls st (W2 s t) R := by
  refine wpl_call (o := 1) hf hm hme hst has ⟨hg.1, by show 1 < 2; decide, hg.2⟩ ?_
  refine cal.mono (show cal P m' P.al.length (.ref 0 :: as) ((W2 s t).1 1) _ from hq) fun v s' h => ?_
  show wpl P Q sc mi me (pc + 3) ls (v.toList ++ r) (uo (uo (uo (fun _ => s0) 0 s) 1 t) 1 s', 2, false) R
  rw [uo_uo]; exact h
end Worlds
theorem cal_I {P : Cl} {m' c : Nat} {as : List Value} {s : St} {F : Option Value → St → Prop} (h : calI P m' c as s fun v s' => F (some (.int v)) s') : cal P m' c as s F := cal.mono h fun _ _ ⟨v, e, q⟩ => by subst e; exact q
theorem cal_L {P : Cl} {m' c : Nat} {as : List Value} {s : St} {F : Option Value → St → Prop} (h : calL P m' c as s fun v s' => F (some (.long v)) s') : cal P m' c as s F := cal.mono h fun _ _ ⟨v, e, q⟩ => by subst e; exact q
theorem cal_V {P : Cl} {m' c : Nat} {as : List Value} {s : St} {F : Option Value → St → Prop} (h : calV P m' c as s fun s' => F none s') : cal P m' c as s F := cal.mono h fun _ _ ⟨e, q⟩ => by subst e; exact q
theorem lal_I {P : Cl} {Q : Lw} {sc : Sc} {m' : Nat} {as : List Value} {w : Wd} {F : Option Value → Wd → Prop} (h : lalI P Q sc m' as w fun v w' => F (some (.int v)) w') : lal P Q sc m' as w F := lal.mono h fun _ _ ⟨v, e, q⟩ => by subst e; exact q
theorem lal_L {P : Cl} {Q : Lw} {sc : Sc} {m' : Nat} {as : List Value} {w : Wd} {F : Option Value → Wd → Prop} (h : lalL P Q sc m' as w fun v w' => F (some (.long v)) w') : lal P Q sc m' as w F := lal.mono h fun _ _ ⟨v, e, q⟩ => by subst e; exact q
theorem lal_V {P : Cl} {Q : Lw} {sc : Sc} {m' : Nat} {as : List Value} {w : Wd} {F : Option Value → Wd → Prop} (h : lalV P Q sc m' as w fun w' => F none w') : lal P Q sc m' as w F := lal.mono h fun _ _ ⟨e, q⟩ => by subst e; exact q
end Jvm.LM

namespace Jvm.LM
open Sem ClassFile Op Lib Jvm.Stand Jvm.Free Jvm.LawKit Jvm.RoadKit
/-! rules for the steps that ask something -/
abbrev wpcI (P : Cl) (mi : Nat) (me : Me) (c pc : Nat) (ls : Lv) (st : List Value) (s : St) (Q : Int32 → St → Prop) : Prop := wpc P mi me c pc ls st s fun r s' => ∃ v, r = some (.int v) ∧ Q v s'
abbrev wpcL (P : Cl) (mi : Nat) (me : Me) (c pc : Nat) (ls : Lv) (st : List Value) (s : St) (Q : Int64 → St → Prop) : Prop := wpc P mi me c pc ls st s fun r s' => ∃ v, r = some (.long v) ∧ Q v s'
abbrev wpcV (P : Cl) (mi : Nat) (me : Me) (c pc : Nat) (ls : Lv) (st : List Value) (s : St) (Q : St → Prop) : Prop := wpc P mi me c pc ls st s fun r s' => r = none ∧ Q s'
abbrev wplI (P : Cl) (Q : Lw) (sc : Sc) (mi : Nat) (me : Me) (pc : Nat) (ls : Lv) (st : List Value) (w : Wd) (R : Int32 → Wd → Prop) : Prop := wpl P Q sc mi me pc ls st w fun r w' => ∃ v, r = some (.int v) ∧ R v w'
abbrev wplL (P : Cl) (Q : Lw) (sc : Sc) (mi : Nat) (me : Me) (pc : Nat) (ls : Lv) (st : List Value) (w : Wd) (R : Int64 → Wd → Prop) : Prop := wpl P Q sc mi me pc ls st w fun r w' => ∃ v, r = some (.long v) ∧ R v w'
abbrev wplV (P : Cl) (Q : Lw) (sc : Sc) (mi : Nat) (me : Me) (pc : Nat) (ls : Lv) (st : List Value) (w : Wd) (R : Wd → Prop) : Prop := wpl P Q sc mi me pc ls st w fun r w' => r = none ∧ R w'
section C
variable {P : Cl} {mi : Nat} {me : Me} {c pc a N n : Nat} {ls : Lv} {r : List Value} {s s' : St} {Q : Option Value → St → Prop} {j : Int32}
theorem wpc_ldaI {v : Int32} (hf : fetch me.cd pc = some (.iaload, n)) (ha : P.al[a]? = some (0, N)) (hac : a < c) (hj : inb N j) (hv : gI s (a + 1) (ix j) = v) (hq : wpc P mi me c (pc + 1) ls (.int v :: r) s Q) : wpc P mi me c pc ls (.int j :: .ref (a + 1) :: r) s Q := by
  subst hv; exact wpc_lda hf (Or.inl ⟨rfl, rfl⟩) ha hac hj hq
theorem wpc_ldaZ {v : Int32} (hf : fetch me.cd pc = some (.baload, n)) (ha : P.al[a]? = some (1, N)) (hac : a < c) (hj : inb N j) (hv : gI s (a + 1) (ix j) = v) (hq : wpc P mi me c (pc + 1) ls (.int v :: r) s Q) : wpc P mi me c pc ls (.int j :: .ref (a + 1) :: r) s Q := by
  subst hv; exact wpc_lda hf (Or.inr (Or.inl ⟨rfl, rfl⟩)) ha hac hj hq
theorem wpc_ldaJ {v : Int64} (hf : fetch me.cd pc = some (.laload, n)) (ha : P.al[a]? = some (2, N)) (hac : a < c) (hj : inb N j) (hv : gL s (a + 1) (ix j) = v) (hq : wpc P mi me c (pc + 1) ls (.long v :: r) s Q) : wpc P mi me c pc ls (.int j :: .ref (a + 1) :: r) s Q := by
  subst hv; exact wpc_lda hf (Or.inr (Or.inr ⟨rfl, rfl⟩)) ha hac hj hq
theorem wpc_staI {z : Int32} (hf : fetch me.cd pc = some (.iastore, n)) (ha : P.al[a]? = some (0, N)) (hac : a < c) (hj : inb N j) (hs : sI s (a + 1) (ix j) z = s') (hq : wpc P mi me c (pc + 1) ls r s' Q) : wpc P mi me c pc ls (.int z :: .int j :: .ref (a + 1) :: r) s Q :=
  wpc_sta hf (Or.inl ⟨rfl, rfl, z, rfl, hs.symm⟩) ha hac hj hq
theorem wpc_staZ {z : Int32} (hf : fetch me.cd pc = some (.bastore, n)) (ha : P.al[a]? = some (1, N)) (hac : a < c) (hj : inb N j) (hs : sI s (a + 1) (ix j) (z &&& 1) = s') (hq : wpc P mi me c (pc + 1) ls r s' Q) : wpc P mi me c pc ls (.int z :: .int j :: .ref (a + 1) :: r) s Q :=
  wpc_sta hf (Or.inr (Or.inl ⟨rfl, rfl, z, rfl, hs.symm⟩)) ha hac hj hq
theorem wpc_staJ {z : Int64} (hf : fetch me.cd pc = some (.lastore, n)) (ha : P.al[a]? = some (2, N)) (hac : a < c) (hj : inb N j) (hs : sL s (a + 1) (ix j) z = s') (hq : wpc P mi me c (pc + 1) ls r s' Q) : wpc P mi me c pc ls (.long z :: .int j :: .ref (a + 1) :: r) s Q :=
  wpc_sta hf (Or.inr (Or.inr ⟨rfl, rfl, z, rfl, hs.symm⟩)) ha hac hj hq
theorem wpc_pl {i : Instr} {pc' : Nat} {ls' : Lv} {st st' : List Value} (hf : fetch me.cd pc = some (i, n)) (hi : ∀ (rt : Option Value → St → Rs) cl (k : Nat → Nat → Lv → List Value → St → Rs), cstep P mi me rt cl k i c pc ls st s = match pstep i pc ls st with | some (pc', ls', st') => k c pc' ls' st' s | none => none) (h : pstep i pc ls st = some (pc', ls', st')) (hq : wpc P mi me c pc' ls' st' s Q) : wpc P mi me c pc ls st s Q :=
  wpc_one hf (fun rt cl k => by rw [hi, h]) hq
theorem wpc_idiv {x y : Int32} (hf : fetch me.cd pc = some (.idiv, n)) (hy : ¬ y = 0) (hq : wpc P mi me c (pc + 1) ls (.int (x / y) :: r) s Q) : wpc P mi me c pc ls (.int y :: .int x :: r) s Q :=
  wpc_pl hf (fun _ _ _ => rfl) (by simp only [pstep, qstep]; rw [if_neg hy]) hq
theorem wpc_irem {x y : Int32} (hf : fetch me.cd pc = some (.irem, n)) (hy : ¬ y = 0) (hq : wpc P mi me c (pc + 1) ls (.int (x % y) :: r) s Q) : wpc P mi me c pc ls (.int y :: .int x :: r) s Q :=
  wpc_pl hf (fun _ _ _ => rfl) (by simp only [pstep, qstep]; rw [if_neg hy]) hq
theorem wpc_ldiv {x y : Int64} (hf : fetch me.cd pc = some (.ldiv, n)) (hy : ¬ y = 0) (hq : wpc P mi me c (pc + 1) ls (.long (x / y) :: r) s Q) : wpc P mi me c pc ls (.long y :: .long x :: r) s Q :=
  wpc_pl hf (fun _ _ _ => rfl) (by simp only [pstep, qstep]; rw [if_neg hy]) hq
end C
/-- the roads of a switch: one a value, from l on -/
def TS (x : Int32) (F : Int → Prop) : List Int → Int → Prop
  | [], _ => True
  | o :: r, l => (x.toInt = l → F o) ∧ TS x F r (l + 1)
theorem TS_at {x : Int32} {F : Int → Prop} : ∀ {os : List Int} {l : Int}, TS x F os l → l ≤ x.toInt → x.toInt < l + os.length → ∃ o, os[(x.toInt - l).toNat]? = some o ∧ F o := by
  intro os
  induction os with
  | nil => intro l _ h1 h2; simp at h2; omega
  | cons o r ih =>
    intro l h h1 h2
    by_cases e : x.toInt = l
    · exact ⟨o, by rw [e]; simp, h.1 e⟩
    · obtain ⟨o', q1, q2⟩ := ih h.2 (by omega) (by simp at h2; omega)
      refine ⟨o', ?_, q2⟩
      have : (x.toInt - l).toNat = (x.toInt - (l + 1)).toNat + 1 := by omega
      rw [this]; simpa using q1
theorem tsw_ok {x : Int32} {F : Int → Prop} {pc : Nat} {ls : Lv} {r : List Value} {d lo hi : Int} {offs : Array Int} (hd : 0 ≤ (pc : Int) + d) (ho : ∀ o ∈ offs.toList, 0 ≤ (pc : Int) + o) (hh : hi + 1 = lo + offs.toList.length)
    (h1 : TS x F offs.toList lo) (h2 : (x.toInt < lo ∨ x.toInt > hi) → F d) : ∃ o, F o ∧ pstep (.tableswitch d lo hi offs) pc ls (.int x :: r) = some (jmp pc o, ls, r) := by
  by_cases hx : x.toInt < lo ∨ x.toInt > hi
  · refine ⟨d, h2 hx, ?_⟩
    simp only [pstep, qstep]; rw [if_pos hx, if_pos hd]
  · obtain ⟨o, q1, q2⟩ := TS_at h1 (by omega) (by omega)
    have q3 : offs[(x.toInt - lo).toNat]? = some o := by rw [← Array.getElem?_toList]; exact q1
    refine ⟨o, q2, ?_⟩
    simp only [pstep, qstep]; rw [if_neg hx, q3]; dsimp only; rw [if_pos (ho o (List.mem_of_getElem? q1))]
theorem wpc_tsw {P : Cl} {mi : Nat} {me : Me} {c pc n : Nat} {ls : Lv} {r : List Value} {s : St} {Q : Option Value → St → Prop} {x : Int32} {d lo hi : Int} {offs : Array Int} (hf : fetch me.cd pc = some (.tableswitch d lo hi offs, n)) (hd : 0 ≤ (pc : Int) + d) (ho : ∀ o ∈ offs.toList, 0 ≤ (pc : Int) + o) (hh : hi + 1 = lo + offs.toList.length)
    (h1 : TS x (fun o => wpc P mi me c (jmp pc o) ls r s Q) offs.toList lo) (h2 : (x.toInt < lo ∨ x.toInt > hi) → wpc P mi me c (jmp pc d) ls r s Q) : wpc P mi me c pc ls (.int x :: r) s Q := by
  obtain ⟨o, q1, q2⟩ := tsw_ok (ls := ls) (r := r) hd ho hh h1 h2
  exact wpc_pl hf (fun _ _ _ => rfl) q2 q1
section L
variable {P : Cl} {Q : Lw} {sc : Sc} {mi : Nat} {me : Me} {pc n : Nat} {ls : Lv} {r : List Value} {w : Wd} {R : Option Value → Wd → Prop}
theorem wpl_pl {i : Instr} {pc' : Nat} {ls' : Lv} {st st' : List Value} (hf : fetch me.cd pc = some (i, n)) (hi : isPl i = true) (h : pstep i pc ls st = some (pc', ls', st')) (hq : wpl P Q sc mi me pc' ls' st' w R) : wpl P Q sc mi me pc ls st w R :=
  wpl_one hf (fun rt cc cl k => by rw [lstep_pl hi, h]) hq
theorem wpl_idiv {x y : Int32} (hf : fetch me.cd pc = some (.idiv, n)) (hy : ¬ y = 0) (hq : wpl P Q sc mi me (pc + 1) ls (.int (x / y) :: r) w R) : wpl P Q sc mi me pc ls (.int y :: .int x :: r) w R :=
  wpl_pl hf rfl (by simp only [pstep, qstep]; rw [if_neg hy]) hq
theorem wpl_irem {x y : Int32} (hf : fetch me.cd pc = some (.irem, n)) (hy : ¬ y = 0) (hq : wpl P Q sc mi me (pc + 1) ls (.int (x % y) :: r) w R) : wpl P Q sc mi me pc ls (.int y :: .int x :: r) w R :=
  wpl_pl hf rfl (by simp only [pstep, qstep]; rw [if_neg hy]) hq
theorem wpl_ldiv {x y : Int64} (hf : fetch me.cd pc = some (.ldiv, n)) (hy : ¬ y = 0) (hq : wpl P Q sc mi me (pc + 1) ls (.long (x / y) :: r) w R) : wpl P Q sc mi me pc ls (.long y :: .long x :: r) w R :=
  wpl_pl hf rfl (by simp only [pstep, qstep]; rw [if_neg hy]) hq
theorem wpl_tsw {x : Int32} {d lo hi : Int} {offs : Array Int} (hf : fetch me.cd pc = some (.tableswitch d lo hi offs, n)) (hd : 0 ≤ (pc : Int) + d) (ho : ∀ o ∈ offs.toList, 0 ≤ (pc : Int) + o) (hh : hi + 1 = lo + offs.toList.length)
    (h1 : TS x (fun o => wpl P Q sc mi me (jmp pc o) ls r w R) offs.toList lo) (h2 : (x.toInt < lo ∨ x.toInt > hi) → wpl P Q sc mi me (jmp pc d) ls r w R) : wpl P Q sc mi me pc ls (.int x :: r) w R := by
  obtain ⟨o, q1, q2⟩ := tsw_ok (ls := ls) (r := r) hd ho hh h1 h2
  exact wpl_pl hf rfl q2 q1
end L
/-! the links, by lists -/
def AllA {α : Type} (Q : Nat → α → Prop) : List (Nat × α) → Prop
  | [] => True
  | (a, b) :: r => Q a b ∧ AllA Q r
theorem asc_all {α : Type} {Q : Nat → α → Prop} {l : List (Nat × α)} (h : AllA Q l) : ∀ k v, asc l k = some v → Q k v := by
  induction l with
  | nil => intro k v e; cases e
  | cons x r ih =>
    intro k v e
    obtain ⟨a, b⟩ := x
    simp only [asc] at e
    cases q : Nat.beq a k
    · rw [q] at e; exact ih h.2 k v e
    · rw [q] at e; cases e
      obtain rfl := Nat.eq_of_beq_eq_true q
      exact h.1
def AllL (Q : Nat → Nat → Prop) : List (Nat × Nat) → Prop
  | [] => True
  | (a, b) :: r => Q a b ∧ AllL Q r
theorem lst_all {Q : Nat → Nat → Prop} {l : List (Nat × Nat)} (h : AllL Q l) : ∀ (j tt N : Nat), l[j]? = some (tt, N) → Q tt N := by
  induction l with
  | nil => intro j tt N e; simp at e
  | cons x r ih =>
    intro j tt N e
    obtain ⟨a, b⟩ := x
    cases j with
    | zero => simp at e; obtain ⟨rfl, rfl⟩ := e; exact h.1
    | succ j => simp at e; exact ih h.2 j tt N e
def dst1 (k : Nat) (fe : Fe) : List (Nat × Fe) → Bool
  | [] => true
  | (k', fe') :: r => (!(fe.1 == fe'.1)) && (decide (fe.2.2.1 < 3) || !(Nat.beq fe.2.2.1 fe'.2.2.1)) && dst1 k fe r
def dst : List (Nat × Fe) → Bool
  | [] => true
  | (k, fe) :: r => dst1 k fe r && dst r
theorem dst1_ok {k : Nat} {fe : Fe} {l : List (Nat × Fe)} (h : dst1 k fe l = true) : ∀ k' fe', asc l k' = some fe' → fe.1 ≠ fe'.1 ∧ (3 ≤ fe.2.2.1 → fe.2.2.1 ≠ fe'.2.2.1) := by
  induction l with
  | nil => intro k' fe' e; cases e
  | cons x r ih =>
    intro k' fe' e
    obtain ⟨a, b⟩ := x
    simp only [dst1, Bool.and_eq_true] at h
    obtain ⟨⟨h1, h2⟩, h3⟩ := h
    simp only [asc] at e
    cases q : Nat.beq a k'
    · rw [q] at e; exact ih h3 k' fe' e
    · rw [q] at e; cases e
      refine ⟨fun q2 => by rw [q2] at h1; simp at h1, fun q2 q3 => ?_⟩
      rw [q3] at h2 q2
      simp only [Bool.or_eq_true, decide_eq_true_eq, Bool.not_eq_true'] at h2
      rcases h2 with h2 | h2
      · omega
      · rw [Nat.beq_refl] at h2; cases h2
theorem dst_ok {l : List (Nat × Fe)} (h : dst l = true) : ∀ (k k' : Nat) (fe fe' : Fe), asc l k = some fe → asc l k' = some fe' → k ≠ k' → fe.1 ≠ fe'.1 ∧ (3 ≤ fe.2.2.1 → fe.2.2.1 ≠ fe'.2.2.1) := by
  induction l with
  | nil => intro k k' fe fe' e; cases e
  | cons x r ih =>
    intro k k' fe fe' e e' hne
    obtain ⟨a, b⟩ := x
    simp only [dst, Bool.and_eq_true] at h
    simp only [asc] at e e'
    cases q : Nat.beq a k <;> cases q' : Nat.beq a k' <;> rw [q] at e <;> rw [q'] at e'
    · exact ih h.2 k k' fe fe' e e' hne
    · cases e'
      obtain ⟨h1, h2⟩ := dst1_ok h.1 k fe e
      exact ⟨Ne.symm h1, fun z1 z2 => h2 (z2 ▸ z1) z2.symm⟩
    · cases e; exact dst1_ok h.1 k' fe' e'
    · exact absurd ((Nat.eq_of_beq_eq_true q).symm.trans (Nat.eq_of_beq_eq_true q')) hne
def chk (bytes : ByteArray) : Cd → Bool
  | [] => true
  | (pc, i, n) :: r => (match decode bytes pc with | .ok (i', n') => decide (i' = i ∧ n' = n) | .error _ => false) && (isSw i || Nat.beq n (ilen i)) && chk bytes r
theorem chk_ok {bytes : ByteArray} {cd : Cd} (h : chk bytes cd = true) : ∀ pc i n, fetch cd pc = some (i, n) → decode bytes pc = .ok (i, n) ∧ (isSw i = true ∨ n = ilen i) := by
  induction cd with
  | nil => intro pc i n e; cases e
  | cons x r ih =>
    intro pc i n e
    obtain ⟨a, i', n'⟩ := x
    simp only [chk, Bool.and_eq_true] at h
    obtain ⟨⟨h1, h2⟩, h3⟩ := h
    simp only [fetch] at e
    cases q : Nat.beq a pc
    · rw [q] at e; exact ih h3 pc i n e
    · rw [q] at e; cases e
      obtain rfl := Nat.eq_of_beq_eq_true q
      refine ⟨?_, ?_⟩
      · split at h1
        · rename_i i2 n2 hd
          obtain ⟨rfl, rfl⟩ := of_decide_eq_true h1
          exact hd
        · cases h1
      · simp only [Bool.or_eq_true] at h2
        exact h2.imp id Nat.eq_of_beq_eq_true
/-- the array that the law is handed -/
theorem script_of {s : State} {args : Array Value} {a : Addr} {cl : Cell} {t : Term} {k : Int32} (hf : Fit s) (A : Arr s s.heap a cl .int) (ev : t.eval args s none [] s = some (.ref a)) (hl : (Cond.le (Term.length t) (Term.int k)).value args s none s [] = some true) :
    (cl.slots.size < 2 ^ 31 ∧ (cl.slots.size : Int) ≤ k.toInt) ∧ SRep s s.heap a s.heap.size (some (cl.slots.size, fun i => match cl.slots[i]? with | some (.int x) => x | _ => 0)) := by
  obtain ⟨x, y, h1, h2, -⟩ := cmp_v (Or.inr (Or.inr hl))
  have hz : cl.slots.size < 2 ^ 31 := by
    have q : (Term.length t).eval args s none [] s = if cl.slots.size < 2 ^ 31 then some (.int cl.slots.size.toInt32) else none := by simp [Term.eval, ev, A.fin (Vm.Alike.refl _)]
    rw [h1] at q
    split at q
    · assumption
    · cases q
  have h1' := len_f ev (A.fin (Vm.Alike.refl _)) hz (args := args) (first := s) (o := none) (idx := [])
  have hle := gotT (Cond.le_ints h1' (Term.int_eval k)) hl
  rw [Int32.le_iff_toInt_le, len_toInt hz] at hle
  refine ⟨⟨hz, hle⟩, A.lt, cl, A, rfl, fun i hi => ?_⟩
  have e1 : cl.slots[i]? = some cl.slots[i] := Array.getElem?_eq_getElem hi
  have q := elem_fit hf A (j := i.toInt32) (idx_in hi hz)
  have e2 : i.toInt32.toNatClampNeg = i := by
    have := len_toInt (n := i) (by omega)
    simp only [Int32.toNatClampNeg, this]; rfl
  rw [e2] at q
  obtain ⟨v, hv, hfv⟩ := q
  obtain ⟨x, rfl⟩ := fit_I hfv (Or.inl rfl)
  rw [hv]
  dsimp only
  rw [hv]
end Jvm.LM
namespace Jvm.LM
theorem law_run {P : Cl} {Q : Lw} {sc : Sc} {as : List Value} (h : lalI P Q sc 0 as W0 fun v _ => v = 1) {me : Me} (hme : asc Q.ms 0 = some me) : ∃ f w', lexec P Q sc f 0 me 0 (lay as me.ml) [] W0 = some (some (.int 1), w') := by
  obtain ⟨f, v, w', h1, v', rfl, rfl⟩ := h
  refine ⟨f, w', ?_⟩
  simp only [lcall, hme] at h1
  split at h1
  · exact h1
  · cases h1
end Jvm.LM

namespace Jvm.LM
open Jvm.RoadKit
/-! numbers -/
theorem i32_add {x y : Int32} (h1 : -2147483648 ≤ x.toInt + y.toInt) (h2 : x.toInt + y.toInt < 2147483648) : (x + y).toInt = x.toInt + y.toInt := by
  have := c_iadd x y; have := rng32 (x + y); omega
theorem i32_sub {x y : Int32} (h1 : -2147483648 ≤ x.toInt - y.toInt) (h2 : x.toInt - y.toInt < 2147483648) : (x - y).toInt = x.toInt - y.toInt := by
  have := c_isub x y; have := rng32 (x - y); omega
theorem i32_mul {x y : Int32} (h1 : -2147483648 ≤ x.toInt * y.toInt) (h2 : x.toInt * y.toInt < 2147483648) : (x * y).toInt = x.toInt * y.toInt := by
  have := c_imul x y; have := rng32 (x * y); omega
theorem ix_int {i : Int32} (h : 0 ≤ i.toInt) : (ix i : Int) = i.toInt := by simp only [ix, Int32.toNatClampNeg]; omega
theorem ix_inj {i j : Int32} (hi : 0 ≤ i.toInt) (hj : 0 ≤ j.toInt) : ix i = ix j ↔ i = j := by
  have a := ix_int hi; have b := ix_int hj
  rw [← Int32.toInt_inj]; omega
theorem i32_lt {x y : Int32} : x < y ↔ x.toInt < y.toInt := Int32.lt_iff_toInt_lt
theorem i32_eq {x y : Int32} : x = y ↔ x.toInt = y.toInt := Int32.toInt_inj.symm
/-- a loop that counts up to N: from the next turn to this one -/
theorem loop_up {F : Int32 → Prop} (N : Int) (hN : N < 2147483647) (step : ∀ i, 0 ≤ i.toInt → i.toInt < N → (i + 1).toInt = i.toInt + 1 → F (i + 1) → F i) (last : ∀ i, i.toInt = N → F i) : ∀ i, 0 ≤ i.toInt → i.toInt ≤ N → F i := by
  have key : ∀ n : Nat, ∀ i : Int32, 0 ≤ i.toInt → i.toInt + n = N → F i := by
    intro n
    induction n with
    | zero => intro i h0 h1; exact last i (by omega)
    | succ n ih =>
      intro i h0 h1
      have e : (i + 1).toInt = i.toInt + 1 := i32_add (by simp; omega) (by simp; omega)
      exact step i h0 (by omega) e (ih (i + 1) (by omega) (by omega))
  intro i h0 h1
  exact key (N - i.toInt).toNat i h0 (by omega)
theorem cmpL_lt {x y : Int64} : Jvm.Free.XT.cmpL x y < 0 ↔ x < y := by
  unfold Jvm.Free.XT.cmpL; split
  · rename_i h; exact ⟨fun q => absurd q (by decide), fun q => by rw [Int64.lt_iff_toInt_lt] at h q; omega⟩
  · split
    · rename_i h; subst h; exact ⟨fun q => absurd q (by decide), fun q => by rw [Int64.lt_iff_toInt_lt] at q; omega⟩
    · rename_i h1 h2
      refine ⟨fun _ => ?_, fun _ => by decide⟩
      rw [Int64.lt_iff_toInt_lt] at h1 ⊢; rw [← Int64.toInt_inj] at h2; omega
theorem cmpL_gt {x y : Int64} : 0 < Jvm.Free.XT.cmpL x y ↔ y < x := by
  unfold Jvm.Free.XT.cmpL; split
  · rename_i h; exact ⟨fun _ => h, fun _ => by decide⟩
  · rename_i h; split
    · exact ⟨fun q => absurd q (by decide), fun q => absurd q h⟩
    · exact ⟨fun q => absurd q (by decide), fun q => absurd q h⟩
theorem cmpL_eq {x y : Int64} : Jvm.Free.XT.cmpL x y = 0 ↔ x = y := by
  unfold Jvm.Free.XT.cmpL; split
  · rename_i h; exact ⟨fun q => absurd q (by decide), fun q => by subst q; rw [Int64.lt_iff_toInt_lt] at h; omega⟩
  · split
    · rename_i h; exact ⟨fun _ => h, fun _ => rfl⟩
    · rename_i h1 h2; exact ⟨fun q => absurd q (by decide), fun q => absurd q h2⟩
end Jvm.LM

namespace Jvm.Pilot.@@N@@
open Jvm Jvm.ClassFile Sem Op Lib Jvm.Free Jvm.Stand Jvm.LawKit Jvm.RoadKit Jvm.LM Bundle Jvm.Pilot.@@N@@.Jvm.D
def cm0 : Me := ("<init>", "(III)V", 3, 0, [(0, .aload_n 0, 1), (1, .invokespecial 1, 3), (4, .aload_n 0, 1), (5, .iconst 4, 1), (6, .newarray .int, 2), (8, .putfield 7, 3), (11, .aload_n 0, 1), (12, .bipush 8, 2), (14, .newarray .int, 2), (16, .putfield 13, 3), (19, .aload_n 0, 1), (20, .bipush 8, 2), (22, .newarray .int, 2), (24, .putfield 16, 3), (27, .aload_n 0, 1), (28, .bipush 8, 2), (30, .newarray .int, 2), (32, .putfield 19, 3), (35, .aload_n 0, 1), (36, .bipush 8, 2), (38, .newarray .boolean, 2), (40, .putfield 22, 3), (43, .aload_n 0, 1), (44, .bipush 8, 2), (46, .newarray .int, 2), (48, .putfield 26, 3), (51, .aload_n 0, 1), (52, .bipush 8, 2), (54, .newarray .int, 2), (56, .putfield 29, 3), (59, .aload_n 0, 1), (60, .bipush 8, 2), (62, .newarray .int, 2), (64, .putfield 32, 3), (67, .aload_n 0, 1), (68, .bipush 48, 2), (70, .newarray .int, 2), (72, .putfield 35, 3), (75, .aload_n 0, 1), (76, .bipush 48, 2), (78, .newarray .int, 2), (80, .putfield 38, 3), (83, .aload_n 0, 1), (84, .bipush 48, 2), (86, .newarray .int, 2), (88, .putfield 41, 3), (91, .aload_n 0, 1), (92, .bipush 48, 2), (94, .newarray .int, 2), (96, .putfield 44, 3), (99, .aload_n 0, 1), (100, .iload_n 1, 1), (101, .iconst 0, 1), (102, .sipush 500, 3), (105, .invokevirtual 47, 3), (108, .istore 4, 2), (110, .iconst 0, 1), (111, .istore 5, 2), (113, .iload 5, 2), (115, .iconst 4, 1), (116, .if_icmp .ge 18, 3), (119, .aload_n 0, 1), (120, .getfield 7, 3), (123, .iload 5, 2), (125, .iload 4, 2), (127, .iastore, 1), (128, .iinc 5 1, 3), (131, .goto (-18), 3), (134, .aload_n 0, 1), (135, .aload_n 0, 1), (136, .iload_n 2, 1), (137, .iconst 0, 1), (138, .iconst 5, 1), (139, .invokevirtual 47, 3), (142, .putfield 51, 3), (145, .aload_n 0, 1), (146, .aload_n 0, 1), (147, .iload_n 3, 1), (148, .iconst 1, 1), (149, .bipush 8, 2), (151, .invokevirtual 47, 3), (154, .putfield 55, 3), (157, .aload_n 0, 1), (158, .iconst 1, 1), (159, .putfield 58, 3), (162, .aload_n 0, 1), (163, .iconst 0, 1), (164, .putfield 62, 3), (167, .return_, 1)], 6, 1, 16)
def cm2 : Me := ("beginSaga", "()I", 0, 1, [(0, .aload_n 0, 1), (1, .getfield 58, 3), (4, .ifCond .ne 5, 3), (7, .iconst (-1), 1), (8, .ireturn, 1), (9, .aload_n 0, 1), (10, .getfield 62, 3), (13, .aload_n 0, 1), (14, .getfield 55, 3), (17, .if_icmp .lt 5, 3), (20, .iconst (-1), 1), (21, .ireturn, 1), (22, .aload_n 0, 1), (23, .getfield 62, 3), (26, .istore_n 1, 1), (27, .iload_n 1, 1), (28, .ifCond .lt 9, 3), (31, .iload_n 1, 1), (32, .bipush 7, 2), (34, .if_icmp .le 5, 3), (37, .iconst (-1), 1), (38, .ireturn, 1), (39, .aload_n 0, 1), (40, .getfield 13, 3), (43, .iload_n 1, 1), (44, .iconst 1, 1), (45, .iastore, 1), (46, .aload_n 0, 1), (47, .getfield 16, 3), (50, .iload_n 1, 1), (51, .iconst 0, 1), (52, .iastore, 1), (53, .aload_n 0, 1), (54, .getfield 19, 3), (57, .iload_n 1, 1), (58, .iconst 0, 1), (59, .iastore, 1), (60, .aload_n 0, 1), (61, .iload_n 1, 1), (62, .invokevirtual 65, 3), (65, .aload_n 0, 1), (66, .aload_n 0, 1), (67, .getfield 62, 3), (70, .iconst 1, 1), (71, .iadd, 1), (72, .putfield 62, 3), (75, .iload_n 1, 1), (76, .ireturn, 1)], 2, 1, 13)
def cm3 : Me := ("addStep", "(III)I", 3, 1, [(0, .aload_n 0, 1), (1, .getfield 58, 3), (4, .ifCond .ne 5, 3), (7, .iconst (-1), 1), (8, .ireturn, 1), (9, .aload_n 0, 1), (10, .iload_n 1, 1), (11, .invokevirtual 69, 3), (14, .ifCond .ne 5, 3), (17, .iconst (-1), 1), (18, .ireturn, 1), (19, .aload_n 0, 1), (20, .getfield 13, 3), (23, .iload_n 1, 1), (24, .iaload, 1), (25, .iconst 1, 1), (26, .if_icmp .eq 5, 3), (29, .iconst (-1), 1), (30, .ireturn, 1), (31, .iload_n 2, 1), (32, .ifCond .lt 8, 3), (35, .iload_n 2, 1), (36, .iconst 3, 1), (37, .if_icmp .le 5, 3), (40, .iconst (-1), 1), (41, .ireturn, 1), (42, .iload_n 3, 1), (43, .iconst 1, 1), (44, .if_icmp .lt 9, 3), (47, .iload_n 3, 1), (48, .bipush 100, 2), (50, .if_icmp .le 5, 3), (53, .iconst (-1), 1), (54, .ireturn, 1), (55, .aload_n 0, 1), (56, .getfield 16, 3), (59, .iload_n 1, 1), (60, .iaload, 1), (61, .bipush 6, 2), (63, .if_icmp .lt 5, 3), (66, .iconst (-1), 1), (67, .ireturn, 1), (68, .aload_n 0, 1), (69, .iload_n 1, 1), (70, .iload_n 2, 1), (71, .iload_n 3, 1), (72, .invokevirtual 73, 3), (75, .ireturn, 1)], 4, 2, 31)
def cm4 : Me := ("startSaga", "(I)Z", 1, 2, [(0, .aload_n 0, 1), (1, .getfield 58, 3), (4, .ifCond .ne 5, 3), (7, .iconst 0, 1), (8, .ireturn, 1), (9, .aload_n 0, 1), (10, .iload_n 1, 1), (11, .invokevirtual 69, 3), (14, .ifCond .ne 5, 3), (17, .iconst 0, 1), (18, .ireturn, 1), (19, .aload_n 0, 1), (20, .getfield 13, 3), (23, .iload_n 1, 1), (24, .iaload, 1), (25, .iconst 1, 1), (26, .if_icmp .eq 5, 3), (29, .iconst 0, 1), (30, .ireturn, 1), (31, .aload_n 0, 1), (32, .getfield 16, 3), (35, .iload_n 1, 1), (36, .iaload, 1), (37, .ifCond .ne 5, 3), (40, .iconst 0, 1), (41, .ireturn, 1), (42, .aload_n 0, 1), (43, .getfield 13, 3), (46, .iload_n 1, 1), (47, .iconst 2, 1), (48, .iastore, 1), (49, .aload_n 0, 1), (50, .getfield 41, 3), (53, .aload_n 0, 1), (54, .iload_n 1, 1), (55, .iconst 0, 1), (56, .invokevirtual 76, 3), (59, .iconst 1, 1), (60, .iastore, 1), (61, .aload_n 0, 1), (62, .getfield 19, 3), (65, .iload_n 1, 1), (66, .iconst 0, 1), (67, .iastore, 1), (68, .iconst 1, 1), (69, .ireturn, 1)], 2, 1, 15)
def cm5 : Me := ("deliver", "(I)I", 1, 1, [(0, .aload_n 0, 1), (1, .getfield 58, 3), (4, .ifCond .ne 5, 3), (7, .iconst (-1), 1), (8, .ireturn, 1), (9, .aload_n 0, 1), (10, .iload_n 1, 1), (11, .invokevirtual 69, 3), (14, .ifCond .ne 5, 3), (17, .iconst (-1), 1), (18, .ireturn, 1), (19, .aload_n 0, 1), (20, .iload_n 1, 1), (21, .invokevirtual 80, 3), (24, .istore_n 2, 1), (25, .iload_n 2, 1), (26, .ifCond .ge 5, 3), (29, .iconst (-1), 1), (30, .ireturn, 1), (31, .aload_n 0, 1), (32, .iload_n 1, 1), (33, .invokevirtual 84, 3), (36, .istore_n 3, 1), (37, .aload_n 0, 1), (38, .iload_n 1, 1), (39, .iload_n 2, 1), (40, .iload_n 3, 1), (41, .invokevirtual 87, 3), (44, .istore 4, 2), (46, .aload_n 0, 1), (47, .iload_n 3, 1), (48, .iload 4, 2), (50, .invokevirtual 90, 3), (53, .istore 5, 2), (55, .aload_n 0, 1), (56, .iload_n 1, 1), (57, .iload_n 2, 1), (58, .iload_n 3, 1), (59, .iload 5, 2), (61, .invokevirtual 93, 3), (64, .iload 4, 2), (66, .ireturn, 1)], 6, 2, 31)
def cm7 : Me := ("receive", "(I)I", 1, 1, [(0, .aload_n 0, 1), (1, .getfield 58, 3), (4, .ifCond .ne 5, 3), (7, .iconst (-1), 1), (8, .ireturn, 1), (9, .aload_n 0, 1), (10, .iload_n 1, 1), (11, .invokevirtual 69, 3), (14, .ifCond .ne 5, 3), (17, .iconst (-1), 1), (18, .ireturn, 1), (19, .aload_n 0, 1), (20, .getfield 22, 3), (23, .iload_n 1, 1), (24, .baload, 1), (25, .ifCond .ne 5, 3), (28, .iconst (-1), 1), (29, .ireturn, 1), (30, .aload_n 0, 1), (31, .getfield 22, 3), (34, .iload_n 1, 1), (35, .iconst 0, 1), (36, .bastore, 1), (37, .aload_n 0, 1), (38, .iload_n 1, 1), (39, .invokevirtual 80, 3), (42, .istore_n 2, 1), (43, .iload_n 2, 1), (44, .ifCond .ge 5, 3), (47, .iconst 0, 1), (48, .ireturn, 1), (49, .aload_n 0, 1), (50, .iload_n 1, 1), (51, .invokevirtual 84, 3), (54, .istore_n 3, 1), (55, .aload_n 0, 1), (56, .getfield 26, 3), (59, .iload_n 1, 1), (60, .iaload, 1), (61, .iload_n 2, 1), (62, .if_icmp .ne 13, 3), (65, .aload_n 0, 1), (66, .getfield 29, 3), (69, .iload_n 1, 1), (70, .iaload, 1), (71, .iload_n 3, 1), (72, .if_icmp .eq 5, 3), (75, .iconst 0, 1), (76, .ireturn, 1), (77, .iload_n 3, 1), (78, .iconst 1, 1), (79, .if_icmp .ne 30, 3), (82, .aload_n 0, 1), (83, .getfield 32, 3), (86, .iload_n 1, 1), (87, .iaload, 1), (88, .ifCond .ne 12, 3), (91, .aload_n 0, 1), (92, .iload_n 1, 1), (93, .iload_n 2, 1), (94, .invokevirtual 105, 3), (97, .goto 18, 3), (100, .aload_n 0, 1), (101, .iload_n 1, 1), (102, .iload_n 2, 1), (103, .invokevirtual 109, 3), (106, .goto 9, 3), (109, .aload_n 0, 1), (110, .iload_n 1, 1), (111, .iload_n 2, 1), (112, .invokevirtual 112, 3), (115, .aload_n 0, 1), (116, .getfield 13, 3), (119, .iload_n 1, 1), (120, .iaload, 1), (121, .ireturn, 1)], 4, 4, 58)
def cm11 : Me := ("getSagaStatus", "(I)I", 1, 1, [(0, .aload_n 0, 1), (1, .iload_n 1, 1), (2, .invokevirtual 69, 3), (5, .ifCond .ne 5, 3), (8, .iconst (-1), 1), (9, .ireturn, 1), (10, .aload_n 0, 1), (11, .getfield 13, 3), (14, .iload_n 1, 1), (15, .iaload, 1), (16, .ireturn, 1)], 2, 1, 13)
def cm13 : Me := ("getStepState", "(II)I", 2, 1, [(0, .aload_n 0, 1), (1, .iload_n 1, 1), (2, .invokevirtual 69, 3), (5, .ifCond .ne 5, 3), (8, .iconst (-1), 1), (9, .ireturn, 1), (10, .aload_n 0, 1), (11, .iload_n 1, 1), (12, .iload_n 2, 1), (13, .invokevirtual 97, 3), (16, .ifCond .ne 5, 3), (19, .iconst (-1), 1), (20, .ireturn, 1), (21, .aload_n 0, 1), (22, .getfield 41, 3), (25, .aload_n 0, 1), (26, .iload_n 1, 1), (27, .iload_n 2, 1), (28, .invokevirtual 76, 3), (31, .iaload, 1), (32, .ireturn, 1)], 3, 1, 15)
def cm14 : Me := ("getEntry", "(II)I", 2, 1, [(0, .aload_n 0, 1), (1, .iload_n 1, 1), (2, .invokevirtual 69, 3), (5, .ifCond .ne 5, 3), (8, .iconst (-1), 1), (9, .ireturn, 1), (10, .aload_n 0, 1), (11, .iload_n 1, 1), (12, .iload_n 2, 1), (13, .invokevirtual 97, 3), (16, .ifCond .ne 5, 3), (19, .iconst (-1), 1), (20, .ireturn, 1), (21, .aload_n 0, 1), (22, .getfield 44, 3), (25, .aload_n 0, 1), (26, .iload_n 1, 1), (27, .iload_n 2, 1), (28, .invokevirtual 76, 3), (31, .iaload, 1), (32, .ireturn, 1)], 3, 1, 15)
def cm15 : Me := ("getTotal", "(I)I", 1, 1, [(0, .iload_n 1, 1), (1, .ifCond .lt 8, 3), (4, .iload_n 1, 1), (5, .iconst 3, 1), (6, .if_icmp .le 5, 3), (9, .iconst (-1), 1), (10, .ireturn, 1), (11, .aload_n 0, 1), (12, .getfield 7, 3), (15, .iload_n 1, 1), (16, .iaload, 1), (17, .ireturn, 1)], 2, 0, 0)
def cm18 : Me := ("clamp", "(III)I", 3, 1, [(0, .iload_n 1, 1), (1, .iload_n 2, 1), (2, .if_icmp .ge 5, 3), (5, .iload_n 2, 1), (6, .ireturn, 1), (7, .iload_n 1, 1), (8, .iload_n 3, 1), (9, .if_icmp .le 5, 3), (12, .iload_n 3, 1), (13, .ireturn, 1), (14, .iload_n 1, 1), (15, .ireturn, 1)], 4, 0, 0)
def cm19 : Me := ("isValidSaga", "(I)Z", 1, 2, [(0, .iload_n 1, 1), (1, .ifCond .lt 13, 3), (4, .iload_n 1, 1), (5, .bipush 7, 2), (7, .if_icmp .gt 7, 3), (10, .iconst 1, 1), (11, .goto 4, 3), (14, .iconst 0, 1), (15, .ireturn, 1)], 2, 0, 0)
def cm20 : Me := ("isValidStep", "(II)Z", 2, 2, [(0, .iload_n 2, 1), (1, .ifCond .lt 23, 3), (4, .iload_n 2, 1), (5, .aload_n 0, 1), (6, .getfield 16, 3), (9, .iload_n 1, 1), (10, .iaload, 1), (11, .if_icmp .ge 13, 3), (14, .iload_n 2, 1), (15, .bipush 6, 2), (17, .if_icmp .ge 7, 3), (20, .iconst 1, 1), (21, .goto 4, 3), (24, .iconst 0, 1), (25, .ireturn, 1)], 3, 0, 0)
def cm21 : Me := ("key", "(II)I", 2, 1, [(0, .iload_n 1, 1), (1, .bipush 6, 2), (3, .imul, 1), (4, .iload_n 2, 1), (5, .iadd, 1), (6, .ireturn, 1)], 3, 0, 0)
def cm22 : Me := ("appendStep", "(III)I", 3, 1, [(0, .aload_n 0, 1), (1, .getfield 16, 3), (4, .iload_n 1, 1), (5, .iaload, 1), (6, .istore 4, 2), (8, .aload_n 0, 1), (9, .iload_n 1, 1), (10, .iload 4, 2), (12, .invokevirtual 76, 3), (15, .istore 5, 2), (17, .aload_n 0, 1), (18, .getfield 35, 3), (21, .iload 5, 2), (23, .iload_n 2, 1), (24, .iastore, 1), (25, .aload_n 0, 1), (26, .getfield 38, 3), (29, .iload 5, 2), (31, .iload_n 3, 1), (32, .iastore, 1), (33, .aload_n 0, 1), (34, .getfield 41, 3), (37, .iload 5, 2), (39, .iconst 0, 1), (40, .iastore, 1), (41, .aload_n 0, 1), (42, .getfield 44, 3), (45, .iload 5, 2), (47, .iconst 0, 1), (48, .iastore, 1), (49, .aload_n 0, 1), (50, .getfield 16, 3), (53, .iload_n 1, 1), (54, .iload 4, 2), (56, .iconst 1, 1), (57, .iadd, 1), (58, .iastore, 1), (59, .iload 4, 2), (61, .ireturn, 1)], 6, 1, 14)
def cm23 : Me := ("clearSlot", "(I)V", 1, 0, [(0, .aload_n 0, 1), (1, .getfield 22, 3), (4, .iload_n 1, 1), (5, .iconst 0, 1), (6, .bastore, 1), (7, .aload_n 0, 1), (8, .getfield 26, 3), (11, .iload_n 1, 1), (12, .iconst 0, 1), (13, .iastore, 1), (14, .aload_n 0, 1), (15, .getfield 29, 3), (18, .iload_n 1, 1), (19, .iconst 0, 1), (20, .iastore, 1), (21, .aload_n 0, 1), (22, .getfield 32, 3), (25, .iload_n 1, 1), (26, .iconst 0, 1), (27, .iastore, 1), (28, .return_, 1)], 2, 0, 0)
def cm24 : Me := ("setSlot", "(IIII)V", 4, 0, [(0, .aload_n 0, 1), (1, .getfield 22, 3), (4, .iload_n 1, 1), (5, .iconst 1, 1), (6, .bastore, 1), (7, .aload_n 0, 1), (8, .getfield 26, 3), (11, .iload_n 1, 1), (12, .iload_n 2, 1), (13, .iastore, 1), (14, .aload_n 0, 1), (15, .getfield 29, 3), (18, .iload_n 1, 1), (19, .iload_n 3, 1), (20, .iastore, 1), (21, .aload_n 0, 1), (22, .getfield 32, 3), (25, .iload_n 1, 1), (26, .iload 4, 2), (28, .iastore, 1), (29, .return_, 1)], 5, 0, 0)
def cm25 : Me := ("outstandingStep", "(I)I", 1, 1, [(0, .aload_n 0, 1), (1, .getfield 58, 3), (4, .ifCond .ne 5, 3), (7, .iconst (-1), 1), (8, .ireturn, 1), (9, .aload_n 0, 1), (10, .getfield 13, 3), (13, .iload_n 1, 1), (14, .iaload, 1), (15, .iconst 2, 1), (16, .if_icmp .ne 8, 3), (19, .iconst 1, 1), (20, .istore_n 2, 1), (21, .goto 20, 3), (24, .aload_n 0, 1), (25, .getfield 13, 3), (28, .iload_n 1, 1), (29, .iaload, 1), (30, .iconst 3, 1), (31, .if_icmp .ne 8, 3), (34, .iconst 4, 1), (35, .istore_n 2, 1), (36, .goto 5, 3), (39, .iconst (-1), 1), (40, .ireturn, 1), (41, .aload_n 0, 1), (42, .getfield 16, 3), (45, .iload_n 1, 1), (46, .iaload, 1), (47, .istore_n 3, 1), (48, .iconst 0, 1), (49, .istore 4, 2), (51, .iload 4, 2), (53, .iload_n 3, 1), (54, .if_icmp .ge 35, 3), (57, .iload 4, 2), (59, .bipush 6, 2), (61, .if_icmp .ge 28, 3), (64, .aload_n 0, 1), (65, .getfield 41, 3), (68, .aload_n 0, 1), (69, .iload_n 1, 1), (70, .iload 4, 2), (72, .invokevirtual 76, 3), (75, .iaload, 1), (76, .iload_n 2, 1), (77, .if_icmp .ne 6, 3), (80, .iload 4, 2), (82, .ireturn, 1), (83, .iinc 4 1, 3), (86, .goto (-35), 3), (89, .iconst (-1), 1), (90, .ireturn, 1)], 5, 1, 15)
def cm26 : Me := ("outstandingKind", "(I)I", 1, 1, [(0, .aload_n 0, 1), (1, .getfield 13, 3), (4, .iload_n 1, 1), (5, .iaload, 1), (6, .iconst 2, 1), (7, .if_icmp .ne 5, 3), (10, .iconst 1, 1), (11, .ireturn, 1), (12, .iconst 2, 1), (13, .ireturn, 1)], 2, 0, 0)
def cm28 : Me := ("replyFor", "(II)I", 2, 1, [(0, .iload_n 1, 1), (1, .iconst 2, 1), (2, .if_icmp .ne 5, 3), (5, .iconst 0, 1), (6, .ireturn, 1), (7, .iload_n 2, 1), (8, .iconst 1, 1), (9, .if_icmp .eq 8, 3), (12, .iload_n 2, 1), (13, .iconst 3, 1), (14, .if_icmp .ne 5, 3), (17, .iconst 0, 1), (18, .ireturn, 1), (19, .iconst 1, 1), (20, .ireturn, 1)], 3, 0, 0)
def cm29 : Me := ("process", "(III)I", 3, 1, [(0, .aload_n 0, 1), (1, .iload_n 1, 1), (2, .iload_n 2, 1), (3, .invokevirtual 76, 3), (6, .istore 4, 2), (8, .iload_n 3, 1), (9, .iconst 1, 1), (10, .if_icmp .ne 12, 3), (13, .aload_n 0, 1), (14, .iload 4, 2), (16, .invokevirtual 118, 3), (19, .goto 9, 3), (22, .aload_n 0, 1), (23, .iload 4, 2), (25, .invokevirtual 121, 3), (28, .aload_n 0, 1), (29, .getfield 44, 3), (32, .iload 4, 2), (34, .iaload, 1), (35, .ireturn, 1)], 5, 1, 14)
def cm30 : Me := ("applyReserve", "(I)V", 1, 0, [(0, .aload_n 0, 1), (1, .getfield 44, 3), (4, .iload_n 1, 1), (5, .iaload, 1), (6, .ifCond .eq 4, 3), (9, .return_, 1), (10, .aload_n 0, 1), (11, .getfield 35, 3), (14, .iload_n 1, 1), (15, .iaload, 1), (16, .istore_n 2, 1), (17, .iload_n 2, 1), (18, .ifCond .lt 8, 3), (21, .iload_n 2, 1), (22, .iconst 3, 1), (23, .if_icmp .le 4, 3), (26, .return_, 1), (27, .aload_n 0, 1), (28, .getfield 7, 3), (31, .iload_n 2, 1), (32, .iaload, 1), (33, .aload_n 0, 1), (34, .getfield 38, 3), (37, .iload_n 1, 1), (38, .iaload, 1), (39, .if_icmp .lt 32, 3), (42, .aload_n 0, 1), (43, .getfield 7, 3), (46, .iload_n 2, 1), (47, .aload_n 0, 1), (48, .getfield 7, 3), (51, .iload_n 2, 1), (52, .iaload, 1), (53, .aload_n 0, 1), (54, .getfield 38, 3), (57, .iload_n 1, 1), (58, .iaload, 1), (59, .isub, 1), (60, .iastore, 1), (61, .aload_n 0, 1), (62, .getfield 44, 3), (65, .iload_n 1, 1), (66, .iconst 1, 1), (67, .iastore, 1), (68, .goto 10, 3), (71, .aload_n 0, 1), (72, .getfield 44, 3), (75, .iload_n 1, 1), (76, .iconst 2, 1), (77, .iastore, 1), (78, .return_, 1)], 3, 0, 0)
def cm31 : Me := ("applyRelease", "(I)V", 1, 0, [(0, .aload_n 0, 1), (1, .getfield 35, 3), (4, .iload_n 1, 1), (5, .iaload, 1), (6, .istore_n 2, 1), (7, .iload_n 2, 1), (8, .ifCond .lt 8, 3), (11, .iload_n 2, 1), (12, .iconst 3, 1), (13, .if_icmp .le 4, 3), (16, .return_, 1), (17, .aload_n 0, 1), (18, .getfield 44, 3), (21, .iload_n 1, 1), (22, .iaload, 1), (23, .iconst 1, 1), (24, .if_icmp .ne 32, 3), (27, .aload_n 0, 1), (28, .getfield 7, 3), (31, .iload_n 2, 1), (32, .aload_n 0, 1), (33, .getfield 7, 3), (36, .iload_n 2, 1), (37, .iaload, 1), (38, .aload_n 0, 1), (39, .getfield 38, 3), (42, .iload_n 1, 1), (43, .iaload, 1), (44, .iadd, 1), (45, .iastore, 1), (46, .aload_n 0, 1), (47, .getfield 44, 3), (50, .iload_n 1, 1), (51, .iconst 3, 1), (52, .iastore, 1), (53, .goto 19, 3), (56, .aload_n 0, 1), (57, .getfield 44, 3), (60, .iload_n 1, 1), (61, .iaload, 1), (62, .ifCond .ne 10, 3), (65, .aload_n 0, 1), (66, .getfield 44, 3), (69, .iload_n 1, 1), (70, .iconst 4, 1), (71, .iastore, 1), (72, .return_, 1)], 3, 0, 0)
def cm32 : Me := ("onReserveOk", "(II)V", 2, 0, [(0, .aload_n 0, 1), (1, .getfield 41, 3), (4, .aload_n 0, 1), (5, .iload_n 1, 1), (6, .iload_n 2, 1), (7, .invokevirtual 76, 3), (10, .iconst 2, 1), (11, .iastore, 1), (12, .iload_n 2, 1), (13, .aload_n 0, 1), (14, .getfield 16, 3), (17, .iload_n 1, 1), (18, .iaload, 1), (19, .iconst 1, 1), (20, .isub, 1), (21, .if_icmp .lt 11, 3), (24, .aload_n 0, 1), (25, .getfield 13, 3), (28, .iload_n 1, 1), (29, .iconst 4, 1), (30, .iastore, 1), (31, .return_, 1), (32, .aload_n 0, 1), (33, .getfield 41, 3), (36, .aload_n 0, 1), (37, .iload_n 1, 1), (38, .iload_n 2, 1), (39, .iconst 1, 1), (40, .iadd, 1), (41, .invokevirtual 76, 3), (44, .iconst 1, 1), (45, .iastore, 1), (46, .aload_n 0, 1), (47, .getfield 19, 3), (50, .iload_n 1, 1), (51, .iconst 0, 1), (52, .iastore, 1), (53, .return_, 1)], 3, 1, 15)
def cm33 : Me := ("onReserveRefused", "(II)V", 2, 0, [(0, .aload_n 0, 1), (1, .getfield 41, 3), (4, .aload_n 0, 1), (5, .iload_n 1, 1), (6, .iload_n 2, 1), (7, .invokevirtual 76, 3), (10, .iconst 3, 1), (11, .iastore, 1), (12, .aload_n 0, 1), (13, .iload_n 1, 1), (14, .invokevirtual 124, 3), (17, .return_, 1)], 3, 3, 44)
def cm34 : Me := ("onReleaseOk", "(II)V", 2, 0, [(0, .aload_n 0, 1), (1, .getfield 41, 3), (4, .aload_n 0, 1), (5, .iload_n 1, 1), (6, .iload_n 2, 1), (7, .invokevirtual 76, 3), (10, .iconst 5, 1), (11, .iastore, 1), (12, .aload_n 0, 1), (13, .iload_n 1, 1), (14, .invokevirtual 124, 3), (17, .return_, 1)], 3, 3, 44)
def cm36 : Me := ("highestDone", "(I)I", 1, 1, [(0, .aload_n 0, 1), (1, .getfield 16, 3), (4, .iload_n 1, 1), (5, .iaload, 1), (6, .istore_n 2, 1), (7, .iload_n 2, 1), (8, .bipush 6, 2), (10, .if_icmp .le 6, 3), (13, .bipush 6, 2), (15, .istore_n 2, 1), (16, .iload_n 2, 1), (17, .iconst 1, 1), (18, .isub, 1), (19, .istore_n 3, 1), (20, .iload_n 3, 1), (21, .ifCond .lt 26, 3), (24, .aload_n 0, 1), (25, .getfield 41, 3), (28, .aload_n 0, 1), (29, .iload_n 1, 1), (30, .iload_n 3, 1), (31, .invokevirtual 76, 3), (34, .iaload, 1), (35, .iconst 2, 1), (36, .if_icmp .ne 5, 3), (39, .iload_n 3, 1), (40, .ireturn, 1), (41, .iinc 3 (-1), 3), (44, .goto (-24), 3), (47, .iconst (-1), 1), (48, .ireturn, 1)], 4, 1, 15)
def cm37 : Me := ("compensate", "(I)V", 1, 0, [(0, .aload_n 0, 1), (1, .getfield 13, 3), (4, .iload_n 1, 1), (5, .iconst 3, 1), (6, .iastore, 1), (7, .aload_n 0, 1), (8, .iload_n 1, 1), (9, .invokevirtual 127, 3), (12, .istore_n 2, 1), (13, .iload_n 2, 1), (14, .ifCond .ge 11, 3), (17, .aload_n 0, 1), (18, .getfield 13, 3), (21, .iload_n 1, 1), (22, .iconst 5, 1), (23, .iastore, 1), (24, .return_, 1), (25, .aload_n 0, 1), (26, .getfield 41, 3), (29, .aload_n 0, 1), (30, .iload_n 1, 1), (31, .iload_n 2, 1), (32, .invokevirtual 76, 3), (35, .iconst 4, 1), (36, .iastore, 1), (37, .aload_n 0, 1), (38, .getfield 19, 3), (41, .iload_n 1, 1), (42, .iconst 0, 1), (43, .iastore, 1), (44, .return_, 1)], 3, 2, 30)
def PP : Cl := ("SagaCoordinator", [(25, ("total", "[I", 3, true)), (26, ("status", "[I", 4, true)), (27, ("count", "[I", 5, true)), (28, ("retries", "[I", 6, true)), (29, ("slotFull", "[Z", 7, true)), (30, ("slotStep", "[I", 8, true)), (31, ("slotKind", "[I", 9, true)), (32, ("slotReply", "[I", 10, true)), (33, ("part", "[I", 11, true)), (34, ("amt", "[I", 12, true)), (35, ("stState", "[I", 13, true)), (36, ("entry", "[I", 14, true)), (37, ("up", "Z", 1, false)), (38, ("begun", "I", 0, false)), (39, ("maxRetries", "I", 0, false)), (40, ("sagaLimit", "I", 0, false))], [(0, 4), (0, 8), (0, 8), (0, 8), (1, 8), (0, 8), (0, 8), (0, 8), (0, 48), (0, 48), (0, 48), (0, 48)], [(7, 25), (13, 26), (16, 27), (19, 28), (22, 29), (26, 30), (29, 31), (32, 32), (35, 33), (38, 34), (41, 35), (44, 36), (51, 39), (55, 40), (58, 37), (62, 38)], [(47, 18), (65, 23), (69, 19), (73, 22), (76, 21), (80, 25), (84, 26), (87, 29), (90, 28), (93, 24), (97, 20), (105, 32), (109, 33), (112, 34), (118, 30), (121, 31), (124, 37), (127, 36)], [], [(0, cm0), (2, cm2), (3, cm3), (4, cm4), (5, cm5), (7, cm7), (11, cm11), (13, cm13), (14, cm14), (15, cm15), (18, cm18), (19, cm19), (20, cm20), (21, cm21), (22, cm22), (23, cm23), (24, cm24), (25, cm25), (26, cm26), (28, cm28), (29, cm29), (30, cm30), (31, cm31), (32, cm32), (33, cm33), (34, cm34), (36, cm36), (37, cm37)], 1)
def lm0 : Me := ("law", "(IIIII)Z", 5, 2, [(0, .iload_n 0, 1), (1, .ifCond .ge 7, 3), (4, .iconst 0, 1), (5, .goto 17, 3), (8, .iload_n 0, 1), (9, .sipush 500, 3), (12, .if_icmp .le 9, 3), (15, .sipush 500, 3), (18, .goto 4, 3), (21, .iload_n 0, 1), (22, .istore 5, 2), (24, .iload_n 1, 1), (25, .iconst 3, 1), (26, .iand, 1), (27, .istore 6, 2), (29, .iload_n 3, 1), (30, .iconst 3, 1), (31, .iand, 1), (32, .istore 7, 2), (34, .iload_n 2, 1), (35, .bipush 100, 2), (37, .irem, 1), (38, .bipush 100, 2), (40, .iadd, 1), (41, .bipush 100, 2), (43, .irem, 1), (44, .iconst 1, 1), (45, .iadd, 1), (46, .istore 8, 2), (48, .iload 4, 2), (50, .bipush 100, 2), (52, .irem, 1), (53, .bipush 100, 2), (55, .iadd, 1), (56, .bipush 100, 2), (58, .irem, 1), (59, .iconst 1, 1), (60, .iadd, 1), (61, .istore 9, 2), (63, .new 7, 3), (66, .dup, 1), (67, .iload_n 0, 1), (68, .iconst 0, 1), (69, .bipush 8, 2), (71, .invokespecial 9, 3), (74, .astore 10, 2), (76, .aload 10, 2), (78, .invokevirtual 12, 3), (81, .istore 11, 2), (83, .aload 10, 2), (85, .iconst 0, 1), (86, .iload 6, 2), (88, .iload 8, 2), (90, .invokevirtual 16, 3), (93, .istore 12, 2), (95, .aload 10, 2), (97, .iconst 0, 1), (98, .iload 7, 2), (100, .iload 9, 2), (102, .invokevirtual 16, 3), (105, .istore 13, 2), (107, .aload 10, 2), (109, .iconst 0, 1), (110, .invokevirtual 20, 3), (113, .istore 14, 2), (115, .aload 10, 2), (117, .iconst 0, 1), (118, .invokevirtual 24, 3), (121, .istore 15, 2), (123, .aload 10, 2), (125, .iconst 0, 1), (126, .invokevirtual 28, 3), (129, .istore 16, 2), (131, .aload 10, 2), (133, .iconst 0, 1), (134, .invokevirtual 24, 3), (137, .istore 17, 2), (139, .aload 10, 2), (141, .iconst 0, 1), (142, .invokevirtual 28, 3), (145, .istore 18, 2), (147, .aload 10, 2), (149, .iconst 0, 1), (150, .invokevirtual 24, 3), (153, .istore 19, 2), (155, .aload 10, 2), (157, .iconst 0, 1), (158, .invokevirtual 28, 3), (161, .istore 20, 2), (163, .iload 8, 2), (165, .iload 5, 2), (167, .if_icmp .gt 7, 3), (170, .iconst 1, 1), (171, .goto 4, 3), (174, .iconst 0, 1), (175, .istore 21, 2), (177, .iload 21, 2), (179, .ifCond .eq 28, 3), (182, .iload 9, 2), (184, .iload 5, 2), (186, .iload 6, 2), (188, .iload 7, 2), (190, .if_icmp .ne 8, 3), (193, .iload 8, 2), (195, .goto 4, 3), (198, .iconst 0, 1), (199, .isub, 1), (200, .if_icmp .gt 7, 3), (203, .iconst 1, 1), (204, .goto 4, 3), (207, .iconst 0, 1), (208, .istore 22, 2), (210, .iload 21, 2), (212, .ifCond .ne 36, 3), (215, .iconst 2, 1), (216, .istore 23, 2), (218, .iconst 5, 1), (219, .istore 24, 2), (221, .iconst (-1), 1), (222, .istore 25, 2), (224, .iconst (-1), 1), (225, .istore 26, 2), (227, .iconst (-1), 1), (228, .istore 27, 2), (230, .iconst (-1), 1), (231, .istore 28, 2), (233, .iconst 3, 1), (234, .istore 29, 2), (236, .iconst 0, 1), (237, .istore 30, 2), (239, .iconst 2, 1), (240, .istore 31, 2), (242, .iconst 0, 1), (243, .istore 32, 2), (245, .goto 71, 3), (248, .iload 22, 2), (250, .ifCond .eq 36, 3), (253, .iconst 1, 1), (254, .istore 23, 2), (256, .iconst 2, 1), (257, .istore 24, 2), (259, .iconst 1, 1), (260, .istore 25, 2), (262, .iconst 4, 1), (263, .istore 26, 2), (265, .iconst (-1), 1), (266, .istore 27, 2), (268, .iconst (-1), 1), (269, .istore 28, 2), (271, .iconst 2, 1), (272, .istore 29, 2), (274, .iconst 2, 1), (275, .istore 30, 2), (277, .iconst 1, 1), (278, .istore 31, 2), (280, .iconst 1, 1), (281, .istore 32, 2), (283, .goto 33, 3), (286, .iconst 1, 1), (287, .istore 23, 2), (289, .iconst 2, 1), (290, .istore 24, 2), (292, .iconst 2, 1), (293, .istore 25, 2), (295, .iconst 3, 1), (296, .istore 26, 2), (298, .iconst 3, 1), (299, .istore 27, 2), (301, .iconst 5, 1), (302, .istore 28, 2), (304, .iconst 5, 1), (305, .istore 29, 2), (307, .iconst 3, 1), (308, .istore 30, 2), (310, .iconst 3, 1), (311, .istore 31, 2), (313, .iconst 2, 1), (314, .istore 32, 2), (316, .iload 11, 2), (318, .ifCond .ne 23, 3), (321, .iload 12, 2), (323, .ifCond .ne 18, 3), (326, .iload 13, 2), (328, .iconst 1, 1), (329, .if_icmp .ne 12, 3), (332, .iload 14, 2), (334, .ifCond .eq 7, 3), (337, .iconst 1, 1), (338, .goto 4, 3), (341, .iconst 0, 1), (342, .istore 33, 2), (344, .iload 33, 2), (346, .ifCond .eq 49, 3), (349, .iload 15, 2), (351, .iload 23, 2), (353, .if_icmp .ne 42, 3), (356, .iload 16, 2), (358, .iload 24, 2), (360, .if_icmp .ne 35, 3), (363, .iload 17, 2), (365, .iload 25, 2), (367, .if_icmp .ne 28, 3), (370, .iload 18, 2), (372, .iload 26, 2), (374, .if_icmp .ne 21, 3), (377, .iload 19, 2), (379, .iload 27, 2), (381, .if_icmp .ne 14, 3), (384, .iload 20, 2), (386, .iload 28, 2), (388, .if_icmp .ne 7, 3), (391, .iconst 1, 1), (392, .goto 4, 3), (395, .iconst 0, 1), (396, .istore 33, 2), (398, .iload 33, 2), (400, .ifCond .eq 19, 3), (403, .aload 10, 2), (405, .iconst 0, 1), (406, .iconst 0, 1), (407, .invokevirtual 31, 3), (410, .iload 29, 2), (412, .if_icmp .ne 7, 3), (415, .iconst 1, 1), (416, .goto 4, 3), (419, .iconst 0, 1), (420, .istore 33, 2), (422, .iload 33, 2), (424, .ifCond .eq 19, 3), (427, .aload 10, 2), (429, .iconst 0, 1), (430, .iconst 1, 1), (431, .invokevirtual 31, 3), (434, .iload 30, 2), (436, .if_icmp .ne 7, 3), (439, .iconst 1, 1), (440, .goto 4, 3), (443, .iconst 0, 1), (444, .istore 33, 2), (446, .iload 33, 2), (448, .ifCond .eq 19, 3), (451, .aload 10, 2), (453, .iconst 0, 1), (454, .iconst 0, 1), (455, .invokevirtual 35, 3), (458, .iload 31, 2), (460, .if_icmp .ne 7, 3), (463, .iconst 1, 1), (464, .goto 4, 3), (467, .iconst 0, 1), (468, .istore 33, 2), (470, .iload 33, 2), (472, .ifCond .eq 19, 3), (475, .aload 10, 2), (477, .iconst 0, 1), (478, .iconst 1, 1), (479, .invokevirtual 35, 3), (482, .iload 32, 2), (484, .if_icmp .ne 7, 3), (487, .iconst 1, 1), (488, .goto 4, 3), (491, .iconst 0, 1), (492, .istore 33, 2), (494, .iload 33, 2), (496, .ifCond .eq 26, 3), (499, .aload 10, 2), (501, .iconst 0, 1), (502, .invokevirtual 38, 3), (505, .iload 22, 2), (507, .ifCond .eq 7, 3), (510, .iconst 4, 1), (511, .goto 4, 3), (514, .iconst 5, 1), (515, .if_icmp .ne 7, 3), (518, .iconst 1, 1), (519, .goto 4, 3), (522, .iconst 0, 1), (523, .istore 33, 2), (525, .iconst 0, 1), (526, .istore 34, 2), (528, .iload 34, 2), (530, .iconst 4, 1), (531, .if_icmp .ge 74, 3), (534, .iload 5, 2), (536, .istore 35, 2), (538, .iload 22, 2), (540, .ifCond .eq 35, 3), (543, .iload 35, 2), (545, .iload 34, 2), (547, .iload 6, 2), (549, .if_icmp .ne 8, 3), (552, .iload 8, 2), (554, .goto 4, 3), (557, .iconst 0, 1), (558, .isub, 1), (559, .iload 34, 2), (561, .iload 7, 2), (563, .if_icmp .ne 8, 3), (566, .iload 9, 2), (568, .goto 4, 3), (571, .iconst 0, 1), (572, .isub, 1), (573, .istore 35, 2), (575, .iload 33, 2), (577, .ifCond .eq 19, 3), (580, .aload 10, 2), (582, .iload 34, 2), (584, .invokevirtual 41, 3), (587, .iload 35, 2), (589, .if_icmp .ne 7, 3), (592, .iconst 1, 1), (593, .goto 4, 3), (596, .iconst 0, 1), (597, .istore 33, 2), (599, .iinc 34 1, 3), (602, .goto (-74), 3), (605, .iload 33, 2), (607, .ireturn, 1)], 36, 8, 176)
def QQ : Lw := ("SagaCoordinatorL3", [], [(12, 2), (16, 3), (20, 4), (24, 5), (28, 7), (31, 13), (35, 14), (38, 11), (41, 15)], 9, 7, 16, [], [(0, lm0)], 40, 640)
set_option maxRecDepth 100000
set_option maxHeartbeats 1000000
theorem dk_c0 : chk prog_1_method_1_code cm0.cd = true := by decide +kernel
theorem dk_c18 : chk prog_1_method_18_code cm18.cd = true := by decide +kernel
theorem dk_c2 : chk prog_1_method_2_code cm2.cd = true := by decide +kernel
theorem dk_c23 : chk prog_1_method_23_code cm23.cd = true := by decide +kernel
theorem dk_c3 : chk prog_1_method_3_code cm3.cd = true := by decide +kernel
theorem dk_c19 : chk prog_1_method_19_code cm19.cd = true := by decide +kernel
theorem dk_c22 : chk prog_1_method_22_code cm22.cd = true := by decide +kernel
theorem dk_c21 : chk prog_1_method_21_code cm21.cd = true := by decide +kernel
theorem dk_c4 : chk prog_1_method_4_code cm4.cd = true := by decide +kernel
theorem dk_c5 : chk prog_1_method_5_code cm5.cd = true := by decide +kernel
theorem dk_c25 : chk prog_1_method_25_code cm25.cd = true := by decide +kernel
theorem dk_c26 : chk prog_1_method_26_code cm26.cd = true := by decide +kernel
theorem dk_c29 : chk prog_1_method_29_code cm29.cd = true := by decide +kernel
theorem dk_c30 : chk prog_1_method_30_code cm30.cd = true := by decide +kernel
theorem dk_c28 : chk prog_1_method_28_code cm28.cd = true := by decide +kernel
theorem dk_c24 : chk prog_1_method_24_code cm24.cd = true := by decide +kernel
theorem dk_c7 : chk prog_1_method_7_code cm7.cd = true := by decide +kernel
theorem dk_c33 : chk prog_1_method_33_code cm33.cd = true := by decide +kernel
theorem dk_c37 : chk prog_1_method_37_code cm37.cd = true := by decide +kernel
theorem dk_c36 : chk prog_1_method_36_code cm36.cd = true := by decide +kernel
theorem dk_c13 : chk prog_1_method_13_code cm13.cd = true := by decide +kernel
theorem dk_c20 : chk prog_1_method_20_code cm20.cd = true := by decide +kernel
theorem dk_c14 : chk prog_1_method_14_code cm14.cd = true := by decide +kernel
theorem dk_c11 : chk prog_1_method_11_code cm11.cd = true := by decide +kernel
theorem dk_c15 : chk prog_1_method_15_code cm15.cd = true := by decide +kernel
theorem dk_c32 : chk prog_1_method_32_code cm32.cd = true := by decide +kernel
theorem dk_c31 : chk prog_1_method_31_code cm31.cd = true := by decide +kernel
theorem dk_c34 : chk prog_1_method_34_code cm34.cd = true := by decide +kernel
theorem chk_ap {bytes : ByteArray} : ∀ (x y : Cd), chk bytes x = true → chk bytes y = true → chk bytes (x ++ y) = true
  | [], y, _, h => h
  | (pc, i, n) :: r, y, h, k => by
    simp only [List.cons_append, chk, Bool.and_eq_true] at h ⊢
    exact ⟨h.1, chk_ap r y h.2 k⟩
theorem chk_td {bytes : ByteArray} {l : Cd} (n : Nat) (h : chk bytes (l.take n) = true) (k : chk bytes (l.drop n) = true) : chk bytes l = true := by
  have := chk_ap _ _ h k
  rwa [List.take_append_drop] at this
theorem dk_l0_0 : chk code (lm0.cd.take 80) = true := by decide +kernel
theorem dk_l0_1 : chk code ((lm0.cd.drop 80).take 80) = true := by decide +kernel
theorem dk_l0_2 : chk code (((lm0.cd.drop 80).drop 80).take 80) = true := by decide +kernel
theorem dk_l0_3 : chk code (((lm0.cd.drop 80).drop 80).drop 80) = true := by decide +kernel
theorem dk_l0 : chk code lm0.cd = true := (chk_td 80 dk_l0_0 (chk_td 80 dk_l0_1 (chk_td 80 dk_l0_2 dk_l0_3)))
theorem pk_c0 : parseMethodDescriptor "(III)V" = some ⟨[.int, .int, .int], none⟩ := by decide +kernel
theorem pk_c18 : parseMethodDescriptor "(III)I" = some ⟨[.int, .int, .int], some .int⟩ := by decide +kernel
theorem pk_c2 : parseMethodDescriptor "()I" = some ⟨[], some .int⟩ := by decide +kernel
theorem pk_c23 : parseMethodDescriptor "(I)V" = some ⟨[.int], none⟩ := by decide +kernel
theorem pk_c3 : parseMethodDescriptor "(III)I" = some ⟨[.int, .int, .int], some .int⟩ := by decide +kernel
theorem pk_c19 : parseMethodDescriptor "(I)Z" = some ⟨[.int], some .boolean⟩ := by decide +kernel
theorem pk_c22 : parseMethodDescriptor "(III)I" = some ⟨[.int, .int, .int], some .int⟩ := by decide +kernel
theorem pk_c21 : parseMethodDescriptor "(II)I" = some ⟨[.int, .int], some .int⟩ := by decide +kernel
theorem pk_c4 : parseMethodDescriptor "(I)Z" = some ⟨[.int], some .boolean⟩ := by decide +kernel
theorem pk_c5 : parseMethodDescriptor "(I)I" = some ⟨[.int], some .int⟩ := by decide +kernel
theorem pk_c25 : parseMethodDescriptor "(I)I" = some ⟨[.int], some .int⟩ := by decide +kernel
theorem pk_c26 : parseMethodDescriptor "(I)I" = some ⟨[.int], some .int⟩ := by decide +kernel
theorem pk_c29 : parseMethodDescriptor "(III)I" = some ⟨[.int, .int, .int], some .int⟩ := by decide +kernel
theorem pk_c30 : parseMethodDescriptor "(I)V" = some ⟨[.int], none⟩ := by decide +kernel
theorem pk_c28 : parseMethodDescriptor "(II)I" = some ⟨[.int, .int], some .int⟩ := by decide +kernel
theorem pk_c24 : parseMethodDescriptor "(IIII)V" = some ⟨[.int, .int, .int, .int], none⟩ := by decide +kernel
theorem pk_c7 : parseMethodDescriptor "(I)I" = some ⟨[.int], some .int⟩ := by decide +kernel
theorem pk_c33 : parseMethodDescriptor "(II)V" = some ⟨[.int, .int], none⟩ := by decide +kernel
theorem pk_c37 : parseMethodDescriptor "(I)V" = some ⟨[.int], none⟩ := by decide +kernel
theorem pk_c36 : parseMethodDescriptor "(I)I" = some ⟨[.int], some .int⟩ := by decide +kernel
theorem pk_c13 : parseMethodDescriptor "(II)I" = some ⟨[.int, .int], some .int⟩ := by decide +kernel
theorem pk_c20 : parseMethodDescriptor "(II)Z" = some ⟨[.int, .int], some .boolean⟩ := by decide +kernel
theorem pk_c14 : parseMethodDescriptor "(II)I" = some ⟨[.int, .int], some .int⟩ := by decide +kernel
theorem pk_c11 : parseMethodDescriptor "(I)I" = some ⟨[.int], some .int⟩ := by decide +kernel
theorem pk_c15 : parseMethodDescriptor "(I)I" = some ⟨[.int], some .int⟩ := by decide +kernel
theorem pk_c32 : parseMethodDescriptor "(II)V" = some ⟨[.int, .int], none⟩ := by decide +kernel
theorem pk_c31 : parseMethodDescriptor "(I)V" = some ⟨[.int], none⟩ := by decide +kernel
theorem pk_c34 : parseMethodDescriptor "(II)V" = some ⟨[.int, .int], none⟩ := by decide +kernel
theorem lkC (Z : State) (a0 : Array Value) (hw : ∀ d ∈ tables_1, d.before a0 Z = true) : LinkC PP Z a0 :=
  ⟨⟨⟨16, (hw _ (List.mem_of_getElem? (i := 1) rfl))⟩, (hw _ (List.mem_of_getElem? (i := 2) rfl))⟩,
   asc_all (⟨by intro z h; obtain rfl : ("total", "[I", 3, true) = z := Option.some.inj h; exact (hw _ (List.mem_of_getElem? (i := 10) rfl)), by intro z h; obtain rfl : ("status", "[I", 4, true) = z := Option.some.inj h; exact (hw _ (List.mem_of_getElem? (i := 12) rfl)), by intro z h; obtain rfl : ("count", "[I", 5, true) = z := Option.some.inj h; exact (hw _ (List.mem_of_getElem? (i := 14) rfl)), by intro z h; obtain rfl : ("retries", "[I", 6, true) = z := Option.some.inj h; exact (hw _ (List.mem_of_getElem? (i := 16) rfl)), by intro z h; obtain rfl : ("slotFull", "[Z", 7, true) = z := Option.some.inj h; exact (hw _ (List.mem_of_getElem? (i := 19) rfl)), by intro z h; obtain rfl : ("slotStep", "[I", 8, true) = z := Option.some.inj h; exact (hw _ (List.mem_of_getElem? (i := 21) rfl)), by intro z h; obtain rfl : ("slotKind", "[I", 9, true) = z := Option.some.inj h; exact (hw _ (List.mem_of_getElem? (i := 23) rfl)), by intro z h; obtain rfl : ("slotReply", "[I", 10, true) = z := Option.some.inj h; exact (hw _ (List.mem_of_getElem? (i := 25) rfl)), by intro z h; obtain rfl : ("part", "[I", 11, true) = z := Option.some.inj h; exact (hw _ (List.mem_of_getElem? (i := 27) rfl)), by intro z h; obtain rfl : ("amt", "[I", 12, true) = z := Option.some.inj h; exact (hw _ (List.mem_of_getElem? (i := 29) rfl)), by intro z h; obtain rfl : ("stState", "[I", 13, true) = z := Option.some.inj h; exact (hw _ (List.mem_of_getElem? (i := 31) rfl)), by intro z h; obtain rfl : ("entry", "[I", 14, true) = z := Option.some.inj h; exact (hw _ (List.mem_of_getElem? (i := 33) rfl)), by intro z h; obtain rfl : ("maxRetries", "I", 0, false) = z := Option.some.inj h; exact (hw _ (List.mem_of_getElem? (i := 39) rfl)), by intro z h; obtain rfl : ("sagaLimit", "I", 0, false) = z := Option.some.inj h; exact (hw _ (List.mem_of_getElem? (i := 41) rfl)), by intro z h; obtain rfl : ("up", "Z", 1, false) = z := Option.some.inj h; exact (hw _ (List.mem_of_getElem? (i := 43) rfl)), by intro z h; obtain rfl : ("begun", "I", 0, false) = z := Option.some.inj h; exact (hw _ (List.mem_of_getElem? (i := 45) rfl)), trivial⟩),
   asc_all (⟨(hw _ (List.mem_of_getElem? (i := 11) rfl)), (hw _ (List.mem_of_getElem? (i := 13) rfl)), (hw _ (List.mem_of_getElem? (i := 15) rfl)), (hw _ (List.mem_of_getElem? (i := 17) rfl)), (hw _ (List.mem_of_getElem? (i := 20) rfl)), (hw _ (List.mem_of_getElem? (i := 22) rfl)), (hw _ (List.mem_of_getElem? (i := 24) rfl)), (hw _ (List.mem_of_getElem? (i := 26) rfl)), (hw _ (List.mem_of_getElem? (i := 28) rfl)), (hw _ (List.mem_of_getElem? (i := 30) rfl)), (hw _ (List.mem_of_getElem? (i := 32) rfl)), (hw _ (List.mem_of_getElem? (i := 34) rfl)), (hw _ (List.mem_of_getElem? (i := 44) rfl)), (hw _ (List.mem_of_getElem? (i := 46) rfl)), (hw _ (List.mem_of_getElem? (i := 40) rfl)), (hw _ (List.mem_of_getElem? (i := 42) rfl)), trivial⟩),
   asc_all (⟨(by decide +kernel), (by decide +kernel), (by decide +kernel), (by decide +kernel), (by decide +kernel), (by decide +kernel), (by decide +kernel), (by decide +kernel), (by decide +kernel), (by decide +kernel), (by decide +kernel), (by decide +kernel), (by decide +kernel), (by decide +kernel), (by decide +kernel), (by decide +kernel), trivial⟩),
   dst_ok (by decide +kernel),
   lst_all (⟨⟨by decide, (hw _ (List.mem_of_getElem? (i := 9) rfl))⟩, ⟨by decide, (hw _ (List.mem_of_getElem? (i := 9) rfl))⟩, ⟨by decide, (hw _ (List.mem_of_getElem? (i := 9) rfl))⟩, ⟨by decide, (hw _ (List.mem_of_getElem? (i := 9) rfl))⟩, ⟨by decide, (hw _ (List.mem_of_getElem? (i := 18) rfl))⟩, ⟨by decide, (hw _ (List.mem_of_getElem? (i := 9) rfl))⟩, ⟨by decide, (hw _ (List.mem_of_getElem? (i := 9) rfl))⟩, ⟨by decide, (hw _ (List.mem_of_getElem? (i := 9) rfl))⟩, ⟨by decide, (hw _ (List.mem_of_getElem? (i := 9) rfl))⟩, ⟨by decide, (hw _ (List.mem_of_getElem? (i := 9) rfl))⟩, ⟨by decide, (hw _ (List.mem_of_getElem? (i := 9) rfl))⟩, ⟨by decide, (hw _ (List.mem_of_getElem? (i := 9) rfl))⟩, trivial⟩),
   asc_all (trivial),
   ⟨(hw _ (List.mem_of_getElem? (i := 6) rfl)), (hw _ (List.mem_of_getElem? (i := 7) rfl)), (hw _ (List.mem_of_getElem? (i := 8) rfl))⟩,
   asc_all (⟨⟨prog_1_method_1_code, [.int, .int, .int], (hw _ (List.mem_of_getElem? (i := 5) rfl)), chk_ok dk_c0, pk_c0, rfl⟩, ⟨prog_1_method_2_code, [], (hw _ (List.mem_of_getElem? (i := 51) rfl)), chk_ok dk_c2, pk_c2, rfl⟩, ⟨prog_1_method_3_code, [.int, .int, .int], (hw _ (List.mem_of_getElem? (i := 60) rfl)), chk_ok dk_c3, pk_c3, rfl⟩, ⟨prog_1_method_4_code, [.int], (hw _ (List.mem_of_getElem? (i := 77) rfl)), chk_ok dk_c4, pk_c4, rfl⟩, ⟨prog_1_method_5_code, [.int], (hw _ (List.mem_of_getElem? (i := 82) rfl)), chk_ok dk_c5, pk_c5, rfl⟩, ⟨prog_1_method_7_code, [.int], (hw _ (List.mem_of_getElem? (i := 111) rfl)), chk_ok dk_c7, pk_c7, rfl⟩, ⟨prog_1_method_11_code, [.int], (hw _ (List.mem_of_getElem? (i := 142) rfl)), chk_ok dk_c11, pk_c11, rfl⟩, ⟨prog_1_method_13_code, [.int, .int], (hw _ (List.mem_of_getElem? (i := 128) rfl)), chk_ok dk_c13, pk_c13, rfl⟩, ⟨prog_1_method_14_code, [.int, .int], (hw _ (List.mem_of_getElem? (i := 137) rfl)), chk_ok dk_c14, pk_c14, rfl⟩, ⟨prog_1_method_15_code, [.int], (hw _ (List.mem_of_getElem? (i := 147) rfl)), chk_ok dk_c15, pk_c15, rfl⟩, ⟨prog_1_method_18_code, [.int, .int, .int], (hw _ (List.mem_of_getElem? (i := 38) rfl)), chk_ok dk_c18, pk_c18, rfl⟩, ⟨prog_1_method_19_code, [.int], (hw _ (List.mem_of_getElem? (i := 64) rfl)), chk_ok dk_c19, pk_c19, rfl⟩, ⟨prog_1_method_20_code, [.int, .int], (hw _ (List.mem_of_getElem? (i := 132) rfl)), chk_ok dk_c20, pk_c20, rfl⟩, ⟨prog_1_method_21_code, [.int, .int], (hw _ (List.mem_of_getElem? (i := 72) rfl)), chk_ok dk_c21, pk_c21, rfl⟩, ⟨prog_1_method_22_code, [.int, .int, .int], (hw _ (List.mem_of_getElem? (i := 68) rfl)), chk_ok dk_c22, pk_c22, rfl⟩, ⟨prog_1_method_23_code, [.int], (hw _ (List.mem_of_getElem? (i := 55) rfl)), chk_ok dk_c23, pk_c23, rfl⟩, ⟨prog_1_method_24_code, [.int, .int, .int, .int], (hw _ (List.mem_of_getElem? (i := 106) rfl)), chk_ok dk_c24, pk_c24, rfl⟩, ⟨prog_1_method_25_code, [.int], (hw _ (List.mem_of_getElem? (i := 86) rfl)), chk_ok dk_c25, pk_c25, rfl⟩, ⟨prog_1_method_26_code, [.int], (hw _ (List.mem_of_getElem? (i := 90) rfl)), chk_ok dk_c26, pk_c26, rfl⟩, ⟨prog_1_method_28_code, [.int, .int], (hw _ (List.mem_of_getElem? (i := 102) rfl)), chk_ok dk_c28, pk_c28, rfl⟩, ⟨prog_1_method_29_code, [.int, .int, .int], (hw _ (List.mem_of_getElem? (i := 94) rfl)), chk_ok dk_c29, pk_c29, rfl⟩, ⟨prog_1_method_30_code, [.int], (hw _ (List.mem_of_getElem? (i := 98) rfl)), chk_ok dk_c30, pk_c30, rfl⟩, ⟨prog_1_method_31_code, [.int], (hw _ (List.mem_of_getElem? (i := 155) rfl)), chk_ok dk_c31, pk_c31, rfl⟩, ⟨prog_1_method_32_code, [.int, .int], (hw _ (List.mem_of_getElem? (i := 151) rfl)), chk_ok dk_c32, pk_c32, rfl⟩, ⟨prog_1_method_33_code, [.int, .int], (hw _ (List.mem_of_getElem? (i := 115) rfl)), chk_ok dk_c33, pk_c33, rfl⟩, ⟨prog_1_method_34_code, [.int, .int], (hw _ (List.mem_of_getElem? (i := 159) rfl)), chk_ok dk_c34, pk_c34, rfl⟩, ⟨prog_1_method_36_code, [.int], (hw _ (List.mem_of_getElem? (i := 123) rfl)), chk_ok dk_c36, pk_c36, rfl⟩, ⟨prog_1_method_37_code, [.int], (hw _ (List.mem_of_getElem? (i := 119) rfl)), chk_ok dk_c37, pk_c37, rfl⟩, trivial⟩),
   asc_all (⟨by intro z h; obtain rfl : cm18 = z := Option.some.inj h; exact ⟨(hw _ (List.mem_of_getElem? (i := 35) rfl)), (hw _ (List.mem_of_getElem? (i := 36) rfl)), Or.inl (hw _ (List.mem_of_getElem? (i := 37) rfl))⟩, by intro z h; obtain rfl : cm23 = z := Option.some.inj h; exact ⟨(hw _ (List.mem_of_getElem? (i := 52) rfl)), (hw _ (List.mem_of_getElem? (i := 53) rfl)), Or.inl (hw _ (List.mem_of_getElem? (i := 54) rfl))⟩, by intro z h; obtain rfl : cm19 = z := Option.some.inj h; exact ⟨(hw _ (List.mem_of_getElem? (i := 61) rfl)), (hw _ (List.mem_of_getElem? (i := 62) rfl)), Or.inl (hw _ (List.mem_of_getElem? (i := 63) rfl))⟩, by intro z h; obtain rfl : cm22 = z := Option.some.inj h; exact ⟨(hw _ (List.mem_of_getElem? (i := 65) rfl)), (hw _ (List.mem_of_getElem? (i := 66) rfl)), Or.inl (hw _ (List.mem_of_getElem? (i := 67) rfl))⟩, by intro z h; obtain rfl : cm21 = z := Option.some.inj h; exact ⟨(hw _ (List.mem_of_getElem? (i := 69) rfl)), (hw _ (List.mem_of_getElem? (i := 70) rfl)), Or.inl (hw _ (List.mem_of_getElem? (i := 71) rfl))⟩, by intro z h; obtain rfl : cm25 = z := Option.some.inj h; exact ⟨(hw _ (List.mem_of_getElem? (i := 83) rfl)), (hw _ (List.mem_of_getElem? (i := 84) rfl)), Or.inl (hw _ (List.mem_of_getElem? (i := 85) rfl))⟩, by intro z h; obtain rfl : cm26 = z := Option.some.inj h; exact ⟨(hw _ (List.mem_of_getElem? (i := 87) rfl)), (hw _ (List.mem_of_getElem? (i := 88) rfl)), Or.inl (hw _ (List.mem_of_getElem? (i := 89) rfl))⟩, by intro z h; obtain rfl : cm29 = z := Option.some.inj h; exact ⟨(hw _ (List.mem_of_getElem? (i := 91) rfl)), (hw _ (List.mem_of_getElem? (i := 92) rfl)), Or.inl (hw _ (List.mem_of_getElem? (i := 93) rfl))⟩, by intro z h; obtain rfl : cm28 = z := Option.some.inj h; exact ⟨(hw _ (List.mem_of_getElem? (i := 99) rfl)), (hw _ (List.mem_of_getElem? (i := 100) rfl)), Or.inl (hw _ (List.mem_of_getElem? (i := 101) rfl))⟩, by intro z h; obtain rfl : cm24 = z := Option.some.inj h; exact ⟨(hw _ (List.mem_of_getElem? (i := 103) rfl)), (hw _ (List.mem_of_getElem? (i := 104) rfl)), Or.inl (hw _ (List.mem_of_getElem? (i := 105) rfl))⟩, by intro z h; obtain rfl : cm20 = z := Option.some.inj h; exact ⟨(hw _ (List.mem_of_getElem? (i := 129) rfl)), (hw _ (List.mem_of_getElem? (i := 130) rfl)), Or.inl (hw _ (List.mem_of_getElem? (i := 131) rfl))⟩, by intro z h; obtain rfl : cm32 = z := Option.some.inj h; exact ⟨(hw _ (List.mem_of_getElem? (i := 148) rfl)), (hw _ (List.mem_of_getElem? (i := 149) rfl)), Or.inl (hw _ (List.mem_of_getElem? (i := 150) rfl))⟩, by intro z h; obtain rfl : cm33 = z := Option.some.inj h; exact ⟨(hw _ (List.mem_of_getElem? (i := 112) rfl)), (hw _ (List.mem_of_getElem? (i := 113) rfl)), Or.inl (hw _ (List.mem_of_getElem? (i := 114) rfl))⟩, by intro z h; obtain rfl : cm34 = z := Option.some.inj h; exact ⟨(hw _ (List.mem_of_getElem? (i := 156) rfl)), (hw _ (List.mem_of_getElem? (i := 157) rfl)), Or.inl (hw _ (List.mem_of_getElem? (i := 158) rfl))⟩, by intro z h; obtain rfl : cm30 = z := Option.some.inj h; exact ⟨(hw _ (List.mem_of_getElem? (i := 95) rfl)), (hw _ (List.mem_of_getElem? (i := 96) rfl)), Or.inl (hw _ (List.mem_of_getElem? (i := 97) rfl))⟩, by intro z h; obtain rfl : cm31 = z := Option.some.inj h; exact ⟨(hw _ (List.mem_of_getElem? (i := 152) rfl)), (hw _ (List.mem_of_getElem? (i := 153) rfl)), Or.inl (hw _ (List.mem_of_getElem? (i := 154) rfl))⟩, by intro z h; obtain rfl : cm37 = z := Option.some.inj h; exact ⟨(hw _ (List.mem_of_getElem? (i := 116) rfl)), (hw _ (List.mem_of_getElem? (i := 117) rfl)), Or.inl (hw _ (List.mem_of_getElem? (i := 118) rfl))⟩, by intro z h; obtain rfl : cm36 = z := Option.some.inj h; exact ⟨(hw _ (List.mem_of_getElem? (i := 120) rfl)), (hw _ (List.mem_of_getElem? (i := 121) rfl)), Or.inl (hw _ (List.mem_of_getElem? (i := 122) rfl))⟩, trivial⟩),
   (by first | (simp [plainName, overriddenIn]; done) | decide +kernel),
   (by decide),
   (by intro me h; obtain rfl : cm0 = me := Option.some.inj h; rfl)⟩
theorem lkL (Z : State) (a0 : Array Value) (hw : ∀ d ∈ tables_1, d.before a0 Z = true) : LinkL PP QQ Z a0 :=
  ⟨⟨(hw _ (List.mem_of_getElem? (i := 0) rfl)), (hw _ (List.mem_of_getElem? (i := 1) rfl))⟩,
   (by intro me h; obtain rfl : cm0 = me := Option.some.inj h; exact ⟨(hw _ (List.mem_of_getElem? (i := 3) rfl)), (hw _ (List.mem_of_getElem? (i := 4) rfl)), rfl⟩),
   asc_all (⟨by intro z h; obtain rfl : cm2 = z := Option.some.inj h; exact ⟨(hw _ (List.mem_of_getElem? (i := 47) rfl)), (hw _ (List.mem_of_getElem? (i := 48) rfl)), (hw _ (List.mem_of_getElem? (i := 49) rfl)), (hw _ (List.mem_of_getElem? (i := 50) rfl))⟩, by intro z h; obtain rfl : cm3 = z := Option.some.inj h; exact ⟨(hw _ (List.mem_of_getElem? (i := 56) rfl)), (hw _ (List.mem_of_getElem? (i := 57) rfl)), (hw _ (List.mem_of_getElem? (i := 58) rfl)), (hw _ (List.mem_of_getElem? (i := 59) rfl))⟩, by intro z h; obtain rfl : cm4 = z := Option.some.inj h; exact ⟨(hw _ (List.mem_of_getElem? (i := 73) rfl)), (hw _ (List.mem_of_getElem? (i := 74) rfl)), (hw _ (List.mem_of_getElem? (i := 75) rfl)), (hw _ (List.mem_of_getElem? (i := 76) rfl))⟩, by intro z h; obtain rfl : cm5 = z := Option.some.inj h; exact ⟨(hw _ (List.mem_of_getElem? (i := 78) rfl)), (hw _ (List.mem_of_getElem? (i := 79) rfl)), (hw _ (List.mem_of_getElem? (i := 80) rfl)), (hw _ (List.mem_of_getElem? (i := 81) rfl))⟩, by intro z h; obtain rfl : cm7 = z := Option.some.inj h; exact ⟨(hw _ (List.mem_of_getElem? (i := 107) rfl)), (hw _ (List.mem_of_getElem? (i := 108) rfl)), (hw _ (List.mem_of_getElem? (i := 109) rfl)), (hw _ (List.mem_of_getElem? (i := 110) rfl))⟩, by intro z h; obtain rfl : cm13 = z := Option.some.inj h; exact ⟨(hw _ (List.mem_of_getElem? (i := 124) rfl)), (hw _ (List.mem_of_getElem? (i := 125) rfl)), (hw _ (List.mem_of_getElem? (i := 126) rfl)), (hw _ (List.mem_of_getElem? (i := 127) rfl))⟩, by intro z h; obtain rfl : cm14 = z := Option.some.inj h; exact ⟨(hw _ (List.mem_of_getElem? (i := 133) rfl)), (hw _ (List.mem_of_getElem? (i := 134) rfl)), (hw _ (List.mem_of_getElem? (i := 135) rfl)), (hw _ (List.mem_of_getElem? (i := 136) rfl))⟩, by intro z h; obtain rfl : cm11 = z := Option.some.inj h; exact ⟨(hw _ (List.mem_of_getElem? (i := 138) rfl)), (hw _ (List.mem_of_getElem? (i := 139) rfl)), (hw _ (List.mem_of_getElem? (i := 140) rfl)), (hw _ (List.mem_of_getElem? (i := 141) rfl))⟩, by intro z h; obtain rfl : cm15 = z := Option.some.inj h; exact ⟨(hw _ (List.mem_of_getElem? (i := 143) rfl)), (hw _ (List.mem_of_getElem? (i := 144) rfl)), (hw _ (List.mem_of_getElem? (i := 145) rfl)), (hw _ (List.mem_of_getElem? (i := 146) rfl))⟩, trivial⟩),
   asc_all (trivial),
   asc_all (trivial),
   asc_all (⟨fun h => absurd rfl h, trivial⟩),
   (by first | (simp [plainName, overriddenIn]; done) | decide +kernel),
   (by decide)⟩
theorem c18_in (a1 : Int32) (a2 : Int32) (a3 : Int32) (s : St) (Q : Int32 → St → Prop) (h : ((a1 < a2) → Q a2 s) ∧ (¬ (a1 < a2) → ((a3 < a1) → Q a3 s) ∧ (¬ (a3 < a1) → Q a1 s))) : calI PP 18 12 [.ref 0, .int a1, .int a2, .int a3] s Q := by
  refine cal_of (me := cm18) (ls := [some (.ref 0), some (.int a1), some (.int a2), some (.int a3)]) rfl (Nat.le_of_ble_eq_true rfl) rfl ?_
  refine wpc_sl (n := 2) (c' := 12) (pc' := 2) (ls' := [some (.ref 0), some (.int a1), some (.int a2), some (.int a3)]) (st' := [.int a2, .int a1]) (s' := s) rfl ?_
  refine wpc_icmp (a := 7) (b := 5) rfl (by decide) rfl rfl (wpc_br (p := a1 < a2) ⟨fun hc167 => ?_, fun hc167 => ?_⟩)
  · have h168 := h.1 hc167
    refine wpc_sl (n := 1) (c' := 12) (pc' := 6) (ls' := [some (.ref 0), some (.int a1), some (.int a2), some (.int a3)]) (st' := [.int a2]) (s' := s) rfl ?_
    exact wpc_ret rfl rfl (fun q => absurd q (by decide)) rfl ⟨a2, rfl, h168⟩
  · have h169 := h.2 hc167
    refine wpc_sl (n := 2) (c' := 12) (pc' := 9) (ls' := [some (.ref 0), some (.int a1), some (.int a2), some (.int a3)]) (st' := [.int a3, .int a1]) (s' := s) rfl ?_
    refine wpc_icmp (a := 14) (b := 12) rfl (by decide) rfl rfl (wpc_br (p := a3 < a1) ⟨fun hc170 => ?_, fun hc170 => ?_⟩)
    · have h171 := h169.1 hc170
      refine wpc_sl (n := 1) (c' := 12) (pc' := 13) (ls' := [some (.ref 0), some (.int a1), some (.int a2), some (.int a3)]) (st' := [.int a3]) (s' := s) rfl ?_
      exact wpc_ret rfl rfl (fun q => absurd q (by decide)) rfl ⟨a3, rfl, h171⟩
    · have h172 := h169.2 hc170
      refine wpc_sl (n := 1) (c' := 12) (pc' := 15) (ls' := [some (.ref 0), some (.int a1), some (.int a2), some (.int a3)]) (st' := [.int a1]) (s' := s) rfl ?_
      exact wpc_ret rfl rfl (fun q => absurd q (by decide)) rfl ⟨a1, rfl, h172⟩
theorem c0_in (a1 : Int32) (a2 : Int32) (a3 : Int32) (s : St) (Q : St → Prop) (h : calI PP 18 12 [.ref 0, .int a1, .int (0 : Int32), .int (500 : Int32)] s (fun v155 s154 => wpcV PP 0 cm0 12 113 [some (.ref 0), none, some (.int a2), some (.int a3), some (.int v155), some (.int (0 : Int32))] [] s154 Q)) : calV PP 0 0 [.ref 0, .int a1, .int a2, .int a3] s Q := by
  refine cal_of (me := cm0) (ls := [some (.ref 0), some (.int a1), some (.int a2), some (.int a3), none, none]) rfl (Nat.le_of_ble_eq_true rfl) rfl ?_
  refine wpc_sl (n := 42) (c' := 12) (pc' := 105) (ls' := [some (.ref 0), some (.int a1), some (.int a2), some (.int a3), none, none]) (st' := [.int (500 : Int32), .int (0 : Int32), .int a1, .ref 0]) (s' := s) rfl ?_
  refine wpc_callI (m' := 18) (me' := cm18) (as := [.int a1, .int (0 : Int32), .int (500 : Int32)]) (r := []) rfl rfl rfl rfl rfl ⟨by decide, (by first | decide | exact Nat.le_of_ble_eq_true rfl), (by first | decide | exact Nat.le_of_ble_eq_true rfl), rfl⟩ (calI.mono h fun v155 s154 h156 => ?_)
  refine wpc_sl (n := 3) (c' := 12) (pc' := 113) (ls' := [some (.ref 0), some (.int a1), some (.int a2), some (.int a3), some (.int v155), some (.int (0 : Int32))]) (st' := []) (s' := s154) rfl ?_
  exact wpc_lle (ls := [some (.ref 0), none, some (.int a2), some (.int a3), some (.int v155), some (.int (0 : Int32))]) ⟨rfl, rfl, rfl, rfl, rfl, trivial⟩ h156
theorem c0_113 (x2 : Int32) (x3 : Int32) (x4 : Int32) (x5 : Int32) (s : St) (Q : St → Prop) (h : ((x5 < (4 : Int32)) → inb 4 x5 ∧ wpcV PP 0 cm0 12 113 [some (.ref 0), none, some (.int x2), some (.int x3), some (.int x4), some (.int (x5 + (1 : Int32)))] [] (sI s 1 (ix x5) x4) Q) ∧ (¬ (x5 < (4 : Int32)) → calI PP 18 12 [.ref 0, .int x2, .int (0 : Int32), .int (5 : Int32)] s (fun v162 s161 => calI PP 18 12 [.ref 0, .int x3, .int (1 : Int32), .int (8 : Int32)] (sI s161 0 39 v162) (fun v165 s164 => Q (sI (sI (sI s164 0 40 v165) 0 37 (1 : Int32)) 0 38 (0 : Int32)))))) : wpcV PP 0 cm0 12 113 [some (.ref 0), none, some (.int x2), some (.int x3), some (.int x4), some (.int x5)] [] s Q := by
  refine wpc_sl (n := 2) (c' := 12) (pc' := 116) (ls' := [some (.ref 0), none, some (.int x2), some (.int x3), some (.int x4), some (.int x5)]) (st' := [.int (4 : Int32), .int x5]) (s' := s) rfl ?_
  refine wpc_icmp (a := 134) (b := 119) rfl (by decide) rfl rfl (wpc_br (p := x5 < (4 : Int32)) ⟨fun hc157 => ?_, fun hc157 => ?_⟩)
  · have h158 := h.1 hc157
    refine wpc_sl (n := 4) (c' := 12) (pc' := 127) (ls' := [some (.ref 0), none, some (.int x2), some (.int x3), some (.int x4), some (.int x5)]) (st' := [.int x4, .int x5, .ref 1]) (s' := s) rfl ?_
    refine wpc_staI (a := 0) (N := 4) (s' := (sI s 1 (ix x5) x4)) rfl rfl (by decide) h158.1 rfl ?_
    have h160 := h158.2
    refine wpc_sl (n := 2) (c' := 12) (pc' := 113) (ls' := [some (.ref 0), none, some (.int x2), some (.int x3), some (.int x4), some (.int (x5 + (1 : Int32)))]) (st' := []) (s' := (sI s 1 (ix x5) x4)) rfl ?_
    exact h160
  · have h159 := h.2 hc157
    refine wpc_sl (n := 5) (c' := 12) (pc' := 139) (ls' := [some (.ref 0), none, some (.int x2), some (.int x3), some (.int x4), some (.int x5)]) (st' := [.int (5 : Int32), .int (0 : Int32), .int x2, .ref 0, .ref 0]) (s' := s) rfl ?_
    refine wpc_callI (m' := 18) (me' := cm18) (as := [.int x2, .int (0 : Int32), .int (5 : Int32)]) (r := [.ref 0]) rfl rfl rfl rfl rfl ⟨by decide, (by first | decide | exact Nat.le_of_ble_eq_true rfl), (by first | decide | exact Nat.le_of_ble_eq_true rfl), rfl⟩ (calI.mono h159 fun v162 s161 h163 => ?_)
    refine wpc_sl (n := 6) (c' := 12) (pc' := 151) (ls' := [some (.ref 0), none, some (.int x2), some (.int x3), some (.int x4), some (.int x5)]) (st' := [.int (8 : Int32), .int (1 : Int32), .int x3, .ref 0, .ref 0]) (s' := (sI s161 0 39 v162)) rfl ?_
    refine wpc_callI (m' := 18) (me' := cm18) (as := [.int x3, .int (1 : Int32), .int (8 : Int32)]) (r := [.ref 0]) rfl rfl rfl rfl rfl ⟨by decide, (by first | decide | exact Nat.le_of_ble_eq_true rfl), (by first | decide | exact Nat.le_of_ble_eq_true rfl), rfl⟩ (calI.mono h163 fun v165 s164 h166 => ?_)
    refine wpc_sl (n := 7) (c' := 12) (pc' := 167) (ls' := [some (.ref 0), none, some (.int x2), some (.int x3), some (.int x4), some (.int x5)]) (st' := []) (s' := (sI (sI (sI s164 0 40 v165) 0 37 (1 : Int32)) 0 38 (0 : Int32))) rfl ?_
    exact wpc_ret rfl rfl (fun _ => rfl) rfl ⟨rfl, h166⟩
theorem c23_in (a1 : Int32) (s : St) (Q : St → Prop) (h : inb 8 a1 ∧ inb 8 a1 ∧ inb 8 a1 ∧ inb 8 a1 ∧ Q (sI (sI (sI (sI s 5 (ix a1) (0 : Int32)) 6 (ix a1) (0 : Int32)) 7 (ix a1) (0 : Int32)) 8 (ix a1) (0 : Int32))) : calV PP 23 12 [.ref 0, .int a1] s Q := by
  refine cal_of (me := cm23) (ls := [some (.ref 0), some (.int a1)]) rfl (Nat.le_of_ble_eq_true rfl) rfl ?_
  refine wpc_sl (n := 4) (c' := 12) (pc' := 6) (ls' := [some (.ref 0), some (.int a1)]) (st' := [.int (0 : Int32), .int a1, .ref 5]) (s' := s) rfl ?_
  refine wpc_staZ (a := 4) (N := 8) (s' := (sI s 5 (ix a1) (0 : Int32))) rfl rfl (by decide) h.1 rfl ?_
  have h191 := h.2
  refine wpc_sl (n := 4) (c' := 12) (pc' := 13) (ls' := [some (.ref 0), some (.int a1)]) (st' := [.int (0 : Int32), .int a1, .ref 6]) (s' := (sI s 5 (ix a1) (0 : Int32))) rfl ?_
  refine wpc_staI (a := 5) (N := 8) (s' := (sI (sI s 5 (ix a1) (0 : Int32)) 6 (ix a1) (0 : Int32))) rfl rfl (by decide) h191.1 rfl ?_
  have h192 := h191.2
  refine wpc_sl (n := 4) (c' := 12) (pc' := 20) (ls' := [some (.ref 0), some (.int a1)]) (st' := [.int (0 : Int32), .int a1, .ref 7]) (s' := (sI (sI s 5 (ix a1) (0 : Int32)) 6 (ix a1) (0 : Int32))) rfl ?_
  refine wpc_staI (a := 6) (N := 8) (s' := (sI (sI (sI s 5 (ix a1) (0 : Int32)) 6 (ix a1) (0 : Int32)) 7 (ix a1) (0 : Int32))) rfl rfl (by decide) h192.1 rfl ?_
  have h193 := h192.2
  refine wpc_sl (n := 4) (c' := 12) (pc' := 27) (ls' := [some (.ref 0), some (.int a1)]) (st' := [.int (0 : Int32), .int a1, .ref 8]) (s' := (sI (sI (sI s 5 (ix a1) (0 : Int32)) 6 (ix a1) (0 : Int32)) 7 (ix a1) (0 : Int32))) rfl ?_
  refine wpc_staI (a := 7) (N := 8) (s' := (sI (sI (sI (sI s 5 (ix a1) (0 : Int32)) 6 (ix a1) (0 : Int32)) 7 (ix a1) (0 : Int32)) 8 (ix a1) (0 : Int32))) rfl rfl (by decide) h193.1 rfl ?_
  have h194 := h193.2
  exact wpc_ret rfl rfl (fun q => absurd q (by decide)) rfl ⟨rfl, h194⟩
theorem c2_in  (s : St) (Q : Int32 → St → Prop) (h : (((gI s 0 37) = (0 : Int32)) → Q (-1 : Int32) s) ∧ (¬ ((gI s 0 37) = (0 : Int32)) → (((gI s 0 38) < (gI s 0 40)) → (((gI s 0 38) < (0 : Int32)) → Q (-1 : Int32) s) ∧ (¬ ((gI s 0 38) < (0 : Int32)) → (((7 : Int32) < (gI s 0 38)) → Q (-1 : Int32) s) ∧ (¬ ((7 : Int32) < (gI s 0 38)) → inb 8 (gI s 0 38) ∧ inb 8 (gI s 0 38) ∧ inb 8 (gI s 0 38) ∧ calV PP 23 12 [.ref 0, .int (gI s 0 38)] (sI (sI (sI s 2 (ix (gI s 0 38)) (1 : Int32)) 3 (ix (gI s 0 38)) (0 : Int32)) 4 (ix (gI s 0 38)) (0 : Int32)) (fun s188 => Q (gI s 0 38) (sI s188 0 38 ((gI s188 0 38) + (1 : Int32))))))) ∧ (¬ ((gI s 0 38) < (gI s 0 40)) → Q (-1 : Int32) s))) : calI PP 2 12 [.ref 0] s Q := by
  refine cal_of (me := cm2) (ls := [some (.ref 0), none]) rfl (Nat.le_of_ble_eq_true rfl) rfl ?_
  refine wpc_sl (n := 2) (c' := 12) (pc' := 4) (ls' := [some (.ref 0), none]) (st' := [.int (gI s 0 37)]) (s' := s) rfl ?_
  refine wpc_if (a := 9) (b := 7) rfl (by decide) rfl rfl (wpc_br (p := (gI s 0 37) = (0 : Int32)) ⟨fun hc173 => ?_, fun hc173 => ?_⟩)
  · have h174 := h.1 hc173
    refine wpc_sl (n := 1) (c' := 12) (pc' := 8) (ls' := [some (.ref 0), none]) (st' := [.int (-1 : Int32)]) (s' := s) rfl ?_
    exact wpc_ret rfl rfl (fun q => absurd q (by decide)) rfl ⟨(-1 : Int32), rfl, h174⟩
  · have h175 := h.2 hc173
    refine wpc_sl (n := 4) (c' := 12) (pc' := 17) (ls' := [some (.ref 0), none]) (st' := [.int (gI s 0 40), .int (gI s 0 38)]) (s' := s) rfl ?_
    refine wpc_icmp (a := 22) (b := 20) rfl (by decide) rfl rfl (wpc_br (p := (gI s 0 38) < (gI s 0 40)) ⟨fun hc176 => ?_, fun hc176 => ?_⟩)
    · have h177 := h175.1 hc176
      refine wpc_sl (n := 4) (c' := 12) (pc' := 28) (ls' := [some (.ref 0), some (.int (gI s 0 38))]) (st' := [.int (gI s 0 38)]) (s' := s) rfl ?_
      refine wpc_if (a := 37) (b := 31) rfl (by decide) rfl rfl (wpc_br (p := (gI s 0 38) < (0 : Int32)) ⟨fun hc179 => ?_, fun hc179 => ?_⟩)
      · have h180 := h177.1 hc179
        refine wpc_sl (n := 1) (c' := 12) (pc' := 38) (ls' := [some (.ref 0), some (.int (gI s 0 38))]) (st' := [.int (-1 : Int32)]) (s' := s) rfl ?_
        exact wpc_ret rfl rfl (fun q => absurd q (by decide)) rfl ⟨(-1 : Int32), rfl, h180⟩
      · have h181 := h177.2 hc179
        refine wpc_sl (n := 2) (c' := 12) (pc' := 34) (ls' := [some (.ref 0), some (.int (gI s 0 38))]) (st' := [.int (7 : Int32), .int (gI s 0 38)]) (s' := s) rfl ?_
        refine wpc_icmp (a := 39) (b := 37) rfl (by decide) rfl rfl (wpc_br (p := (7 : Int32) < (gI s 0 38)) ⟨fun hc182 => ?_, fun hc182 => ?_⟩)
        · have h183 := h181.1 hc182
          refine wpc_sl (n := 1) (c' := 12) (pc' := 38) (ls' := [some (.ref 0), some (.int (gI s 0 38))]) (st' := [.int (-1 : Int32)]) (s' := s) rfl ?_
          exact wpc_ret rfl rfl (fun q => absurd q (by decide)) rfl ⟨(-1 : Int32), rfl, h183⟩
        · have h184 := h181.2 hc182
          refine wpc_sl (n := 4) (c' := 12) (pc' := 45) (ls' := [some (.ref 0), some (.int (gI s 0 38))]) (st' := [.int (1 : Int32), .int (gI s 0 38), .ref 2]) (s' := s) rfl ?_
          refine wpc_staI (a := 1) (N := 8) (s' := (sI s 2 (ix (gI s 0 38)) (1 : Int32))) rfl rfl (by decide) h184.1 rfl ?_
          have h185 := h184.2
          refine wpc_sl (n := 4) (c' := 12) (pc' := 52) (ls' := [some (.ref 0), some (.int (gI s 0 38))]) (st' := [.int (0 : Int32), .int (gI s 0 38), .ref 3]) (s' := (sI s 2 (ix (gI s 0 38)) (1 : Int32))) rfl ?_
          refine wpc_staI (a := 2) (N := 8) (s' := (sI (sI s 2 (ix (gI s 0 38)) (1 : Int32)) 3 (ix (gI s 0 38)) (0 : Int32))) rfl rfl (by decide) h185.1 rfl ?_
          have h186 := h185.2
          refine wpc_sl (n := 4) (c' := 12) (pc' := 59) (ls' := [some (.ref 0), some (.int (gI s 0 38))]) (st' := [.int (0 : Int32), .int (gI s 0 38), .ref 4]) (s' := (sI (sI s 2 (ix (gI s 0 38)) (1 : Int32)) 3 (ix (gI s 0 38)) (0 : Int32))) rfl ?_
          refine wpc_staI (a := 3) (N := 8) (s' := (sI (sI (sI s 2 (ix (gI s 0 38)) (1 : Int32)) 3 (ix (gI s 0 38)) (0 : Int32)) 4 (ix (gI s 0 38)) (0 : Int32))) rfl rfl (by decide) h186.1 rfl ?_
          have h187 := h186.2
          refine wpc_sl (n := 2) (c' := 12) (pc' := 62) (ls' := [some (.ref 0), some (.int (gI s 0 38))]) (st' := [.int (gI s 0 38), .ref 0]) (s' := (sI (sI (sI s 2 (ix (gI s 0 38)) (1 : Int32)) 3 (ix (gI s 0 38)) (0 : Int32)) 4 (ix (gI s 0 38)) (0 : Int32))) rfl ?_
          refine wpc_callV (m' := 23) (me' := cm23) (as := [.int (gI s 0 38)]) (r := []) rfl rfl rfl rfl rfl ⟨by decide, (by first | decide | exact Nat.le_of_ble_eq_true rfl), (by first | decide | exact Nat.le_of_ble_eq_true rfl), rfl⟩ (calV.mono h187 fun s188 h190 => ?_)
          refine wpc_sl (n := 7) (c' := 12) (pc' := 76) (ls' := [some (.ref 0), some (.int (gI s 0 38))]) (st' := [.int (gI s 0 38)]) (s' := (sI s188 0 38 ((gI s188 0 38) + (1 : Int32)))) rfl ?_
          exact wpc_ret rfl rfl (fun q => absurd q (by decide)) rfl ⟨(gI s 0 38), rfl, h190⟩
    · have h178 := h175.2 hc176
      refine wpc_sl (n := 1) (c' := 12) (pc' := 21) (ls' := [some (.ref 0), none]) (st' := [.int (-1 : Int32)]) (s' := s) rfl ?_
      exact wpc_ret rfl rfl (fun q => absurd q (by decide)) rfl ⟨(-1 : Int32), rfl, h178⟩
theorem c19_in (a1 : Int32) (s : St) (Q : Int32 → St → Prop) (h : ((a1 < (0 : Int32)) → Q (0 : Int32) s) ∧ (¬ (a1 < (0 : Int32)) → (((7 : Int32) < a1) → Q (0 : Int32) s) ∧ (¬ ((7 : Int32) < a1) → Q (1 : Int32) s))) : calI PP 19 12 [.ref 0, .int a1] s Q := by
  refine cal_of (me := cm19) (ls := [some (.ref 0), some (.int a1)]) rfl (Nat.le_of_ble_eq_true rfl) rfl ?_
  refine wpc_sl (n := 1) (c' := 12) (pc' := 1) (ls' := [some (.ref 0), some (.int a1)]) (st' := [.int a1]) (s' := s) rfl ?_
  refine wpc_if (a := 14) (b := 4) rfl (by decide) rfl rfl (wpc_br (p := a1 < (0 : Int32)) ⟨fun hc227 => ?_, fun hc227 => ?_⟩)
  · have h228 := h.1 hc227
    refine wpc_sl (n := 1) (c' := 12) (pc' := 15) (ls' := [some (.ref 0), some (.int a1)]) (st' := [.int (0 : Int32)]) (s' := s) rfl ?_
    exact wpc_ret rfl rfl (fun q => absurd q (by decide)) rfl ⟨(0 : Int32), rfl, h228⟩
  · have h229 := h.2 hc227
    refine wpc_sl (n := 2) (c' := 12) (pc' := 7) (ls' := [some (.ref 0), some (.int a1)]) (st' := [.int (7 : Int32), .int a1]) (s' := s) rfl ?_
    refine wpc_icmp (a := 14) (b := 10) rfl (by decide) rfl rfl (wpc_br (p := (7 : Int32) < a1) ⟨fun hc230 => ?_, fun hc230 => ?_⟩)
    · have h231 := h229.1 hc230
      refine wpc_sl (n := 1) (c' := 12) (pc' := 15) (ls' := [some (.ref 0), some (.int a1)]) (st' := [.int (0 : Int32)]) (s' := s) rfl ?_
      exact wpc_ret rfl rfl (fun q => absurd q (by decide)) rfl ⟨(0 : Int32), rfl, h231⟩
    · have h232 := h229.2 hc230
      refine wpc_sl (n := 2) (c' := 12) (pc' := 15) (ls' := [some (.ref 0), some (.int a1)]) (st' := [.int (1 : Int32)]) (s' := s) rfl ?_
      exact wpc_ret rfl rfl (fun q => absurd q (by decide)) rfl ⟨(1 : Int32), rfl, h232⟩
theorem c21_in (a1 : Int32) (a2 : Int32) (s : St) (Q : Int32 → St → Prop) (h : Q ((a1 * (6 : Int32)) + a2) s) : calI PP 21 12 [.ref 0, .int a1, .int a2] s Q := by
  refine cal_of (me := cm21) (ls := [some (.ref 0), some (.int a1), some (.int a2)]) rfl (Nat.le_of_ble_eq_true rfl) rfl ?_
  refine wpc_sl (n := 5) (c' := 12) (pc' := 6) (ls' := [some (.ref 0), some (.int a1), some (.int a2)]) (st' := [.int ((a1 * (6 : Int32)) + a2)]) (s' := s) rfl ?_
  exact wpc_ret rfl rfl (fun q => absurd q (by decide)) rfl ⟨((a1 * (6 : Int32)) + a2), rfl, h⟩
theorem c22_in (a1 : Int32) (a2 : Int32) (a3 : Int32) (s : St) (Q : Int32 → St → Prop) (h : inb 8 a1 ∧ calI PP 21 12 [.ref 0, .int a1, .int (gI s 3 (ix a1))] s (fun v235 s234 => inb 48 v235 ∧ inb 48 v235 ∧ inb 48 v235 ∧ inb 48 v235 ∧ inb 8 a1 ∧ Q (gI s 3 (ix a1)) (sI (sI (sI (sI (sI s234 9 (ix v235) a2) 10 (ix v235) a3) 11 (ix v235) (0 : Int32)) 12 (ix v235) (0 : Int32)) 3 (ix a1) ((gI s 3 (ix a1)) + (1 : Int32))))) : calI PP 22 12 [.ref 0, .int a1, .int a2, .int a3] s Q := by
  refine cal_of (me := cm22) (ls := [some (.ref 0), some (.int a1), some (.int a2), some (.int a3), none, none]) rfl (Nat.le_of_ble_eq_true rfl) rfl ?_
  refine wpc_sl (n := 3) (c' := 12) (pc' := 5) (ls' := [some (.ref 0), some (.int a1), some (.int a2), some (.int a3), none, none]) (st' := [.int a1, .ref 3]) (s' := s) rfl ?_
  refine wpc_ldaI (a := 2) (N := 8) (v := (gI s 3 (ix a1))) rfl rfl (by decide) h.1 rfl ?_
  have h233 := h.2
  refine wpc_sl (n := 4) (c' := 12) (pc' := 12) (ls' := [some (.ref 0), some (.int a1), some (.int a2), some (.int a3), some (.int (gI s 3 (ix a1))), none]) (st' := [.int (gI s 3 (ix a1)), .int a1, .ref 0]) (s' := s) rfl ?_
  refine wpc_callI (m' := 21) (me' := cm21) (as := [.int a1, .int (gI s 3 (ix a1))]) (r := []) rfl rfl rfl rfl rfl ⟨by decide, (by first | decide | exact Nat.le_of_ble_eq_true rfl), (by first | decide | exact Nat.le_of_ble_eq_true rfl), rfl⟩ (calI.mono h233 fun v235 s234 h236 => ?_)
  refine wpc_sl (n := 5) (c' := 12) (pc' := 24) (ls' := [some (.ref 0), some (.int a1), some (.int a2), some (.int a3), some (.int (gI s 3 (ix a1))), some (.int v235)]) (st' := [.int a2, .int v235, .ref 9]) (s' := s234) rfl ?_
  refine wpc_staI (a := 8) (N := 48) (s' := (sI s234 9 (ix v235) a2)) rfl rfl (by decide) h236.1 rfl ?_
  have h237 := h236.2
  refine wpc_sl (n := 4) (c' := 12) (pc' := 32) (ls' := [some (.ref 0), some (.int a1), some (.int a2), some (.int a3), some (.int (gI s 3 (ix a1))), some (.int v235)]) (st' := [.int a3, .int v235, .ref 10]) (s' := (sI s234 9 (ix v235) a2)) rfl ?_
  refine wpc_staI (a := 9) (N := 48) (s' := (sI (sI s234 9 (ix v235) a2) 10 (ix v235) a3)) rfl rfl (by decide) h237.1 rfl ?_
  have h238 := h237.2
  refine wpc_sl (n := 4) (c' := 12) (pc' := 40) (ls' := [some (.ref 0), some (.int a1), some (.int a2), some (.int a3), some (.int (gI s 3 (ix a1))), some (.int v235)]) (st' := [.int (0 : Int32), .int v235, .ref 11]) (s' := (sI (sI s234 9 (ix v235) a2) 10 (ix v235) a3)) rfl ?_
  refine wpc_staI (a := 10) (N := 48) (s' := (sI (sI (sI s234 9 (ix v235) a2) 10 (ix v235) a3) 11 (ix v235) (0 : Int32))) rfl rfl (by decide) h238.1 rfl ?_
  have h239 := h238.2
  refine wpc_sl (n := 4) (c' := 12) (pc' := 48) (ls' := [some (.ref 0), some (.int a1), some (.int a2), some (.int a3), some (.int (gI s 3 (ix a1))), some (.int v235)]) (st' := [.int (0 : Int32), .int v235, .ref 12]) (s' := (sI (sI (sI s234 9 (ix v235) a2) 10 (ix v235) a3) 11 (ix v235) (0 : Int32))) rfl ?_
  refine wpc_staI (a := 11) (N := 48) (s' := (sI (sI (sI (sI s234 9 (ix v235) a2) 10 (ix v235) a3) 11 (ix v235) (0 : Int32)) 12 (ix v235) (0 : Int32))) rfl rfl (by decide) h239.1 rfl ?_
  have h240 := h239.2
  refine wpc_sl (n := 6) (c' := 12) (pc' := 58) (ls' := [some (.ref 0), some (.int a1), some (.int a2), some (.int a3), some (.int (gI s 3 (ix a1))), some (.int v235)]) (st' := [.int ((gI s 3 (ix a1)) + (1 : Int32)), .int a1, .ref 3]) (s' := (sI (sI (sI (sI s234 9 (ix v235) a2) 10 (ix v235) a3) 11 (ix v235) (0 : Int32)) 12 (ix v235) (0 : Int32))) rfl ?_
  refine wpc_staI (a := 2) (N := 8) (s' := (sI (sI (sI (sI (sI s234 9 (ix v235) a2) 10 (ix v235) a3) 11 (ix v235) (0 : Int32)) 12 (ix v235) (0 : Int32)) 3 (ix a1) ((gI s 3 (ix a1)) + (1 : Int32)))) rfl rfl (by decide) h240.1 rfl ?_
  have h241 := h240.2
  refine wpc_sl (n := 1) (c' := 12) (pc' := 61) (ls' := [some (.ref 0), some (.int a1), some (.int a2), some (.int a3), some (.int (gI s 3 (ix a1))), some (.int v235)]) (st' := [.int (gI s 3 (ix a1))]) (s' := (sI (sI (sI (sI (sI s234 9 (ix v235) a2) 10 (ix v235) a3) 11 (ix v235) (0 : Int32)) 12 (ix v235) (0 : Int32)) 3 (ix a1) ((gI s 3 (ix a1)) + (1 : Int32)))) rfl ?_
  exact wpc_ret rfl rfl (fun q => absurd q (by decide)) rfl ⟨(gI s 3 (ix a1)), rfl, h241⟩
theorem c3_in (a1 : Int32) (a2 : Int32) (a3 : Int32) (s : St) (Q : Int32 → St → Prop) (h : (((gI s 0 37) = (0 : Int32)) → Q (-1 : Int32) s) ∧ (¬ ((gI s 0 37) = (0 : Int32)) → calI PP 19 12 [.ref 0, .int a1] s (fun v199 s198 => ((v199 = (0 : Int32)) → Q (-1 : Int32) s198) ∧ (¬ (v199 = (0 : Int32)) → inb 8 a1 ∧ (((gI s198 2 (ix a1)) = (1 : Int32)) → ((a2 < (0 : Int32)) → Q (-1 : Int32) s198) ∧ (¬ (a2 < (0 : Int32)) → (((3 : Int32) < a2) → Q (-1 : Int32) s198) ∧ (¬ ((3 : Int32) < a2) → ((a3 < (1 : Int32)) → Q (-1 : Int32) s198) ∧ (¬ (a3 < (1 : Int32)) → (((100 : Int32) < a3) → Q (-1 : Int32) s198) ∧ (¬ ((100 : Int32) < a3) → inb 8 a1 ∧ (((gI s198 3 (ix a1)) < (6 : Int32)) → calI PP 22 12 [.ref 0, .int a1, .int a2, .int a3] s198 (fun v225 s224 => Q v225 s224)) ∧ (¬ ((gI s198 3 (ix a1)) < (6 : Int32)) → Q (-1 : Int32) s198)))))) ∧ (¬ ((gI s198 2 (ix a1)) = (1 : Int32)) → Q (-1 : Int32) s198))))) : calI PP 3 12 [.ref 0, .int a1, .int a2, .int a3] s Q := by
  refine cal_of (me := cm3) (ls := [some (.ref 0), some (.int a1), some (.int a2), some (.int a3)]) rfl (Nat.le_of_ble_eq_true rfl) rfl ?_
  refine wpc_sl (n := 2) (c' := 12) (pc' := 4) (ls' := [some (.ref 0), some (.int a1), some (.int a2), some (.int a3)]) (st' := [.int (gI s 0 37)]) (s' := s) rfl ?_
  refine wpc_if (a := 9) (b := 7) rfl (by decide) rfl rfl (wpc_br (p := (gI s 0 37) = (0 : Int32)) ⟨fun hc195 => ?_, fun hc195 => ?_⟩)
  · have h196 := h.1 hc195
    refine wpc_sl (n := 1) (c' := 12) (pc' := 8) (ls' := [some (.ref 0), some (.int a1), some (.int a2), some (.int a3)]) (st' := [.int (-1 : Int32)]) (s' := s) rfl ?_
    exact wpc_ret rfl rfl (fun q => absurd q (by decide)) rfl ⟨(-1 : Int32), rfl, h196⟩
  · have h197 := h.2 hc195
    refine wpc_sl (n := 2) (c' := 12) (pc' := 11) (ls' := [some (.ref 0), some (.int a1), some (.int a2), some (.int a3)]) (st' := [.int a1, .ref 0]) (s' := s) rfl ?_
    refine wpc_callI (m' := 19) (me' := cm19) (as := [.int a1]) (r := []) rfl rfl rfl rfl rfl ⟨by decide, (by first | decide | exact Nat.le_of_ble_eq_true rfl), (by first | decide | exact Nat.le_of_ble_eq_true rfl), rfl⟩ (calI.mono h197 fun v199 s198 h200 => ?_)
    refine wpc_if (a := 19) (b := 17) rfl (by decide) rfl rfl (wpc_br (p := v199 = (0 : Int32)) ⟨fun hc201 => ?_, fun hc201 => ?_⟩)
    · have h202 := h200.1 hc201
      refine wpc_sl (n := 1) (c' := 12) (pc' := 18) (ls' := [some (.ref 0), some (.int a1), some (.int a2), some (.int a3)]) (st' := [.int (-1 : Int32)]) (s' := s198) rfl ?_
      exact wpc_ret rfl rfl (fun q => absurd q (by decide)) rfl ⟨(-1 : Int32), rfl, h202⟩
    · have h203 := h200.2 hc201
      refine wpc_sl (n := 3) (c' := 12) (pc' := 24) (ls' := [some (.ref 0), some (.int a1), some (.int a2), some (.int a3)]) (st' := [.int a1, .ref 2]) (s' := s198) rfl ?_
      refine wpc_ldaI (a := 1) (N := 8) (v := (gI s198 2 (ix a1))) rfl rfl (by decide) h203.1 rfl ?_
      have h204 := h203.2
      refine wpc_sl (n := 1) (c' := 12) (pc' := 26) (ls' := [some (.ref 0), some (.int a1), some (.int a2), some (.int a3)]) (st' := [.int (1 : Int32), .int (gI s198 2 (ix a1))]) (s' := s198) rfl ?_
      refine wpc_icmp (a := 31) (b := 29) rfl (by decide) rfl rfl (wpc_br (p := (gI s198 2 (ix a1)) = (1 : Int32)) ⟨fun hc205 => ?_, fun hc205 => ?_⟩)
      · have h206 := h204.1 hc205
        refine wpc_sl (n := 1) (c' := 12) (pc' := 32) (ls' := [some (.ref 0), some (.int a1), some (.int a2), some (.int a3)]) (st' := [.int a2]) (s' := s198) rfl ?_
        refine wpc_if (a := 40) (b := 35) rfl (by decide) rfl rfl (wpc_br (p := a2 < (0 : Int32)) ⟨fun hc208 => ?_, fun hc208 => ?_⟩)
        · have h209 := h206.1 hc208
          refine wpc_sl (n := 1) (c' := 12) (pc' := 41) (ls' := [some (.ref 0), some (.int a1), some (.int a2), some (.int a3)]) (st' := [.int (-1 : Int32)]) (s' := s198) rfl ?_
          exact wpc_ret rfl rfl (fun q => absurd q (by decide)) rfl ⟨(-1 : Int32), rfl, h209⟩
        · have h210 := h206.2 hc208
          refine wpc_sl (n := 2) (c' := 12) (pc' := 37) (ls' := [some (.ref 0), some (.int a1), some (.int a2), some (.int a3)]) (st' := [.int (3 : Int32), .int a2]) (s' := s198) rfl ?_
          refine wpc_icmp (a := 42) (b := 40) rfl (by decide) rfl rfl (wpc_br (p := (3 : Int32) < a2) ⟨fun hc211 => ?_, fun hc211 => ?_⟩)
          · have h212 := h210.1 hc211
            refine wpc_sl (n := 1) (c' := 12) (pc' := 41) (ls' := [some (.ref 0), some (.int a1), some (.int a2), some (.int a3)]) (st' := [.int (-1 : Int32)]) (s' := s198) rfl ?_
            exact wpc_ret rfl rfl (fun q => absurd q (by decide)) rfl ⟨(-1 : Int32), rfl, h212⟩
          · have h213 := h210.2 hc211
            refine wpc_sl (n := 2) (c' := 12) (pc' := 44) (ls' := [some (.ref 0), some (.int a1), some (.int a2), some (.int a3)]) (st' := [.int (1 : Int32), .int a3]) (s' := s198) rfl ?_
            refine wpc_icmp (a := 53) (b := 47) rfl (by decide) rfl rfl (wpc_br (p := a3 < (1 : Int32)) ⟨fun hc214 => ?_, fun hc214 => ?_⟩)
            · have h215 := h213.1 hc214
              refine wpc_sl (n := 1) (c' := 12) (pc' := 54) (ls' := [some (.ref 0), some (.int a1), some (.int a2), some (.int a3)]) (st' := [.int (-1 : Int32)]) (s' := s198) rfl ?_
              exact wpc_ret rfl rfl (fun q => absurd q (by decide)) rfl ⟨(-1 : Int32), rfl, h215⟩
            · have h216 := h213.2 hc214
              refine wpc_sl (n := 2) (c' := 12) (pc' := 50) (ls' := [some (.ref 0), some (.int a1), some (.int a2), some (.int a3)]) (st' := [.int (100 : Int32), .int a3]) (s' := s198) rfl ?_
              refine wpc_icmp (a := 55) (b := 53) rfl (by decide) rfl rfl (wpc_br (p := (100 : Int32) < a3) ⟨fun hc217 => ?_, fun hc217 => ?_⟩)
              · have h218 := h216.1 hc217
                refine wpc_sl (n := 1) (c' := 12) (pc' := 54) (ls' := [some (.ref 0), some (.int a1), some (.int a2), some (.int a3)]) (st' := [.int (-1 : Int32)]) (s' := s198) rfl ?_
                exact wpc_ret rfl rfl (fun q => absurd q (by decide)) rfl ⟨(-1 : Int32), rfl, h218⟩
              · have h219 := h216.2 hc217
                refine wpc_sl (n := 3) (c' := 12) (pc' := 60) (ls' := [some (.ref 0), some (.int a1), some (.int a2), some (.int a3)]) (st' := [.int a1, .ref 3]) (s' := s198) rfl ?_
                refine wpc_ldaI (a := 2) (N := 8) (v := (gI s198 3 (ix a1))) rfl rfl (by decide) h219.1 rfl ?_
                have h220 := h219.2
                refine wpc_sl (n := 1) (c' := 12) (pc' := 63) (ls' := [some (.ref 0), some (.int a1), some (.int a2), some (.int a3)]) (st' := [.int (6 : Int32), .int (gI s198 3 (ix a1))]) (s' := s198) rfl ?_
                refine wpc_icmp (a := 68) (b := 66) rfl (by decide) rfl rfl (wpc_br (p := (gI s198 3 (ix a1)) < (6 : Int32)) ⟨fun hc221 => ?_, fun hc221 => ?_⟩)
                · have h222 := h220.1 hc221
                  refine wpc_sl (n := 4) (c' := 12) (pc' := 72) (ls' := [some (.ref 0), some (.int a1), some (.int a2), some (.int a3)]) (st' := [.int a3, .int a2, .int a1, .ref 0]) (s' := s198) rfl ?_
                  refine wpc_callI (m' := 22) (me' := cm22) (as := [.int a1, .int a2, .int a3]) (r := []) rfl rfl rfl rfl rfl ⟨by decide, (by first | decide | exact Nat.le_of_ble_eq_true rfl), (by first | decide | exact Nat.le_of_ble_eq_true rfl), rfl⟩ (calI.mono h222 fun v225 s224 h226 => ?_)
                  exact wpc_ret rfl rfl (fun q => absurd q (by decide)) rfl ⟨v225, rfl, h226⟩
                · have h223 := h220.2 hc221
                  refine wpc_sl (n := 1) (c' := 12) (pc' := 67) (ls' := [some (.ref 0), some (.int a1), some (.int a2), some (.int a3)]) (st' := [.int (-1 : Int32)]) (s' := s198) rfl ?_
                  exact wpc_ret rfl rfl (fun q => absurd q (by decide)) rfl ⟨(-1 : Int32), rfl, h223⟩
      · have h207 := h204.2 hc205
        refine wpc_sl (n := 1) (c' := 12) (pc' := 30) (ls' := [some (.ref 0), some (.int a1), some (.int a2), some (.int a3)]) (st' := [.int (-1 : Int32)]) (s' := s198) rfl ?_
        exact wpc_ret rfl rfl (fun q => absurd q (by decide)) rfl ⟨(-1 : Int32), rfl, h207⟩
theorem c4_in (a1 : Int32) (s : St) (Q : Int32 → St → Prop) (h : (((gI s 0 37) = (0 : Int32)) → Q (0 : Int32) s) ∧ (¬ ((gI s 0 37) = (0 : Int32)) → calI PP 19 12 [.ref 0, .int a1] s (fun v246 s245 => ((v246 = (0 : Int32)) → Q (0 : Int32) s245) ∧ (¬ (v246 = (0 : Int32)) → inb 8 a1 ∧ (((gI s245 2 (ix a1)) = (1 : Int32)) → inb 8 a1 ∧ (((gI s245 3 (ix a1)) = (0 : Int32)) → Q (0 : Int32) s245) ∧ (¬ ((gI s245 3 (ix a1)) = (0 : Int32)) → inb 8 a1 ∧ calI PP 21 12 [.ref 0, .int a1, .int (0 : Int32)] (sI s245 2 (ix a1) (2 : Int32)) (fun v261 s260 => inb 48 v261 ∧ inb 8 a1 ∧ Q (1 : Int32) (sI (sI s260 11 (ix v261) (1 : Int32)) 4 (ix a1) (0 : Int32))))) ∧ (¬ ((gI s245 2 (ix a1)) = (1 : Int32)) → Q (0 : Int32) s245))))) : calI PP 4 12 [.ref 0, .int a1] s Q := by
  refine cal_of (me := cm4) (ls := [some (.ref 0), some (.int a1)]) rfl (Nat.le_of_ble_eq_true rfl) rfl ?_
  refine wpc_sl (n := 2) (c' := 12) (pc' := 4) (ls' := [some (.ref 0), some (.int a1)]) (st' := [.int (gI s 0 37)]) (s' := s) rfl ?_
  refine wpc_if (a := 9) (b := 7) rfl (by decide) rfl rfl (wpc_br (p := (gI s 0 37) = (0 : Int32)) ⟨fun hc242 => ?_, fun hc242 => ?_⟩)
  · have h243 := h.1 hc242
    refine wpc_sl (n := 1) (c' := 12) (pc' := 8) (ls' := [some (.ref 0), some (.int a1)]) (st' := [.int (0 : Int32)]) (s' := s) rfl ?_
    exact wpc_ret rfl rfl (fun q => absurd q (by decide)) rfl ⟨(0 : Int32), rfl, h243⟩
  · have h244 := h.2 hc242
    refine wpc_sl (n := 2) (c' := 12) (pc' := 11) (ls' := [some (.ref 0), some (.int a1)]) (st' := [.int a1, .ref 0]) (s' := s) rfl ?_
    refine wpc_callI (m' := 19) (me' := cm19) (as := [.int a1]) (r := []) rfl rfl rfl rfl rfl ⟨by decide, (by first | decide | exact Nat.le_of_ble_eq_true rfl), (by first | decide | exact Nat.le_of_ble_eq_true rfl), rfl⟩ (calI.mono h244 fun v246 s245 h247 => ?_)
    refine wpc_if (a := 19) (b := 17) rfl (by decide) rfl rfl (wpc_br (p := v246 = (0 : Int32)) ⟨fun hc248 => ?_, fun hc248 => ?_⟩)
    · have h249 := h247.1 hc248
      refine wpc_sl (n := 1) (c' := 12) (pc' := 18) (ls' := [some (.ref 0), some (.int a1)]) (st' := [.int (0 : Int32)]) (s' := s245) rfl ?_
      exact wpc_ret rfl rfl (fun q => absurd q (by decide)) rfl ⟨(0 : Int32), rfl, h249⟩
    · have h250 := h247.2 hc248
      refine wpc_sl (n := 3) (c' := 12) (pc' := 24) (ls' := [some (.ref 0), some (.int a1)]) (st' := [.int a1, .ref 2]) (s' := s245) rfl ?_
      refine wpc_ldaI (a := 1) (N := 8) (v := (gI s245 2 (ix a1))) rfl rfl (by decide) h250.1 rfl ?_
      have h251 := h250.2
      refine wpc_sl (n := 1) (c' := 12) (pc' := 26) (ls' := [some (.ref 0), some (.int a1)]) (st' := [.int (1 : Int32), .int (gI s245 2 (ix a1))]) (s' := s245) rfl ?_
      refine wpc_icmp (a := 31) (b := 29) rfl (by decide) rfl rfl (wpc_br (p := (gI s245 2 (ix a1)) = (1 : Int32)) ⟨fun hc252 => ?_, fun hc252 => ?_⟩)
      · have h253 := h251.1 hc252
        refine wpc_sl (n := 3) (c' := 12) (pc' := 36) (ls' := [some (.ref 0), some (.int a1)]) (st' := [.int a1, .ref 3]) (s' := s245) rfl ?_
        refine wpc_ldaI (a := 2) (N := 8) (v := (gI s245 3 (ix a1))) rfl rfl (by decide) h253.1 rfl ?_
        have h255 := h253.2
        refine wpc_if (a := 42) (b := 40) rfl (by decide) rfl rfl (wpc_br (p := (gI s245 3 (ix a1)) = (0 : Int32)) ⟨fun hc256 => ?_, fun hc256 => ?_⟩)
        · have h257 := h255.1 hc256
          refine wpc_sl (n := 1) (c' := 12) (pc' := 41) (ls' := [some (.ref 0), some (.int a1)]) (st' := [.int (0 : Int32)]) (s' := s245) rfl ?_
          exact wpc_ret rfl rfl (fun q => absurd q (by decide)) rfl ⟨(0 : Int32), rfl, h257⟩
        · have h258 := h255.2 hc256
          refine wpc_sl (n := 4) (c' := 12) (pc' := 48) (ls' := [some (.ref 0), some (.int a1)]) (st' := [.int (2 : Int32), .int a1, .ref 2]) (s' := s245) rfl ?_
          refine wpc_staI (a := 1) (N := 8) (s' := (sI s245 2 (ix a1) (2 : Int32))) rfl rfl (by decide) h258.1 rfl ?_
          have h259 := h258.2
          refine wpc_sl (n := 5) (c' := 12) (pc' := 56) (ls' := [some (.ref 0), some (.int a1)]) (st' := [.int (0 : Int32), .int a1, .ref 0, .ref 11]) (s' := (sI s245 2 (ix a1) (2 : Int32))) rfl ?_
          refine wpc_callI (m' := 21) (me' := cm21) (as := [.int a1, .int (0 : Int32)]) (r := [.ref 11]) rfl rfl rfl rfl rfl ⟨by decide, (by first | decide | exact Nat.le_of_ble_eq_true rfl), (by first | decide | exact Nat.le_of_ble_eq_true rfl), rfl⟩ (calI.mono h259 fun v261 s260 h262 => ?_)
          refine wpc_sl (n := 1) (c' := 12) (pc' := 60) (ls' := [some (.ref 0), some (.int a1)]) (st' := [.int (1 : Int32), .int v261, .ref 11]) (s' := s260) rfl ?_
          refine wpc_staI (a := 10) (N := 48) (s' := (sI s260 11 (ix v261) (1 : Int32))) rfl rfl (by decide) h262.1 rfl ?_
          have h263 := h262.2
          refine wpc_sl (n := 4) (c' := 12) (pc' := 67) (ls' := [some (.ref 0), some (.int a1)]) (st' := [.int (0 : Int32), .int a1, .ref 4]) (s' := (sI s260 11 (ix v261) (1 : Int32))) rfl ?_
          refine wpc_staI (a := 3) (N := 8) (s' := (sI (sI s260 11 (ix v261) (1 : Int32)) 4 (ix a1) (0 : Int32))) rfl rfl (by decide) h263.1 rfl ?_
          have h264 := h263.2
          refine wpc_sl (n := 1) (c' := 12) (pc' := 69) (ls' := [some (.ref 0), some (.int a1)]) (st' := [.int (1 : Int32)]) (s' := (sI (sI s260 11 (ix v261) (1 : Int32)) 4 (ix a1) (0 : Int32))) rfl ?_
          exact wpc_ret rfl rfl (fun q => absurd q (by decide)) rfl ⟨(1 : Int32), rfl, h264⟩
      · have h254 := h251.2 hc252
        refine wpc_sl (n := 1) (c' := 12) (pc' := 30) (ls' := [some (.ref 0), some (.int a1)]) (st' := [.int (0 : Int32)]) (s' := s245) rfl ?_
        exact wpc_ret rfl rfl (fun q => absurd q (by decide)) rfl ⟨(0 : Int32), rfl, h254⟩
theorem c25_in (a1 : Int32) (s : St) (Q : Int32 → St → Prop) (h : (((gI s 0 37) = (0 : Int32)) → Q (-1 : Int32) s) ∧ (¬ ((gI s 0 37) = (0 : Int32)) → inb 8 a1 ∧ (((gI s 2 (ix a1)) = (2 : Int32)) → wpcI PP 25 cm25 12 41 [some (.ref 0), some (.int a1), some (.int (1 : Int32)), none, none] [] s Q) ∧ (¬ ((gI s 2 (ix a1)) = (2 : Int32)) → inb 8 a1 ∧ (((gI s 2 (ix a1)) = (3 : Int32)) → wpcI PP 25 cm25 12 41 [some (.ref 0), some (.int a1), some (.int (4 : Int32)), none, none] [] s Q) ∧ (¬ ((gI s 2 (ix a1)) = (3 : Int32)) → Q (-1 : Int32) s)))) : calI PP 25 12 [.ref 0, .int a1] s Q := by
  refine cal_of (me := cm25) (ls := [some (.ref 0), some (.int a1), none, none, none]) rfl (Nat.le_of_ble_eq_true rfl) rfl ?_
  refine wpc_sl (n := 2) (c' := 12) (pc' := 4) (ls' := [some (.ref 0), some (.int a1), none, none, none]) (st' := [.int (gI s 0 37)]) (s' := s) rfl ?_
  refine wpc_if (a := 9) (b := 7) rfl (by decide) rfl rfl (wpc_br (p := (gI s 0 37) = (0 : Int32)) ⟨fun hc292 => ?_, fun hc292 => ?_⟩)
  · have h293 := h.1 hc292
    refine wpc_sl (n := 1) (c' := 12) (pc' := 8) (ls' := [some (.ref 0), some (.int a1), none, none, none]) (st' := [.int (-1 : Int32)]) (s' := s) rfl ?_
    exact wpc_ret rfl rfl (fun q => absurd q (by decide)) rfl ⟨(-1 : Int32), rfl, h293⟩
  · have h294 := h.2 hc292
    refine wpc_sl (n := 3) (c' := 12) (pc' := 14) (ls' := [some (.ref 0), some (.int a1), none, none, none]) (st' := [.int a1, .ref 2]) (s' := s) rfl ?_
    refine wpc_ldaI (a := 1) (N := 8) (v := (gI s 2 (ix a1))) rfl rfl (by decide) h294.1 rfl ?_
    have h295 := h294.2
    refine wpc_sl (n := 1) (c' := 12) (pc' := 16) (ls' := [some (.ref 0), some (.int a1), none, none, none]) (st' := [.int (2 : Int32), .int (gI s 2 (ix a1))]) (s' := s) rfl ?_
    refine wpc_icmp (a := 24) (b := 19) rfl (by decide) rfl rfl (wpc_br (p := (gI s 2 (ix a1)) = (2 : Int32)) ⟨fun hc296 => ?_, fun hc296 => ?_⟩)
    · have h297 := h295.1 hc296
      refine wpc_sl (n := 3) (c' := 12) (pc' := 41) (ls' := [some (.ref 0), some (.int a1), some (.int (1 : Int32)), none, none]) (st' := []) (s' := s) rfl ?_
      exact h297
    · have h298 := h295.2 hc296
      refine wpc_sl (n := 3) (c' := 12) (pc' := 29) (ls' := [some (.ref 0), some (.int a1), none, none, none]) (st' := [.int a1, .ref 2]) (s' := s) rfl ?_
      refine wpc_ldaI (a := 1) (N := 8) (v := (gI s 2 (ix a1))) rfl rfl (by decide) h298.1 rfl ?_
      have h299 := h298.2
      refine wpc_sl (n := 1) (c' := 12) (pc' := 31) (ls' := [some (.ref 0), some (.int a1), none, none, none]) (st' := [.int (3 : Int32), .int (gI s 2 (ix a1))]) (s' := s) rfl ?_
      refine wpc_icmp (a := 39) (b := 34) rfl (by decide) rfl rfl (wpc_br (p := (gI s 2 (ix a1)) = (3 : Int32)) ⟨fun hc300 => ?_, fun hc300 => ?_⟩)
      · have h301 := h299.1 hc300
        refine wpc_sl (n := 3) (c' := 12) (pc' := 41) (ls' := [some (.ref 0), some (.int a1), some (.int (4 : Int32)), none, none]) (st' := []) (s' := s) rfl ?_
        exact h301
      · have h302 := h299.2 hc300
        refine wpc_sl (n := 1) (c' := 12) (pc' := 40) (ls' := [some (.ref 0), some (.int a1), none, none, none]) (st' := [.int (-1 : Int32)]) (s' := s) rfl ?_
        exact wpc_ret rfl rfl (fun q => absurd q (by decide)) rfl ⟨(-1 : Int32), rfl, h302⟩
theorem c25_41 (x1 : Int32) (x2 : Int32) (s : St) (Q : Int32 → St → Prop) (h : inb 8 x1 ∧ wpcI PP 25 cm25 12 51 [some (.ref 0), some (.int x1), some (.int x2), some (.int (gI s 3 (ix x1))), some (.int (0 : Int32))] [] s Q) : wpcI PP 25 cm25 12 41 [some (.ref 0), some (.int x1), some (.int x2), none, none] [] s Q := by
  refine wpc_sl (n := 3) (c' := 12) (pc' := 46) (ls' := [some (.ref 0), some (.int x1), some (.int x2), none, none]) (st' := [.int x1, .ref 3]) (s' := s) rfl ?_
  refine wpc_ldaI (a := 2) (N := 8) (v := (gI s 3 (ix x1))) rfl rfl (by decide) h.1 rfl ?_
  have h303 := h.2
  refine wpc_sl (n := 3) (c' := 12) (pc' := 51) (ls' := [some (.ref 0), some (.int x1), some (.int x2), some (.int (gI s 3 (ix x1))), some (.int (0 : Int32))]) (st' := []) (s' := s) rfl ?_
  exact h303
theorem c25_51 (x1 : Int32) (x2 : Int32) (x3 : Int32) (x4 : Int32) (s : St) (Q : Int32 → St → Prop) (h : ((x4 < x3) → ((x4 < (6 : Int32)) → calI PP 21 12 [.ref 0, .int x1, .int x4] s (fun v311 s310 => inb 48 v311 ∧ (((gI s310 11 (ix v311)) = x2) → Q x4 s310) ∧ (¬ ((gI s310 11 (ix v311)) = x2) → wpcI PP 25 cm25 12 51 [some (.ref 0), some (.int x1), some (.int x2), some (.int x3), some (.int (x4 + (1 : Int32)))] [] s310 Q))) ∧ (¬ (x4 < (6 : Int32)) → Q (-1 : Int32) s)) ∧ (¬ (x4 < x3) → Q (-1 : Int32) s)) : wpcI PP 25 cm25 12 51 [some (.ref 0), some (.int x1), some (.int x2), some (.int x3), some (.int x4)] [] s Q := by
  refine wpc_sl (n := 2) (c' := 12) (pc' := 54) (ls' := [some (.ref 0), some (.int x1), some (.int x2), some (.int x3), some (.int x4)]) (st' := [.int x3, .int x4]) (s' := s) rfl ?_
  refine wpc_icmp (a := 89) (b := 57) rfl (by decide) rfl rfl (wpc_br (p := x4 < x3) ⟨fun hc304 => ?_, fun hc304 => ?_⟩)
  · have h305 := h.1 hc304
    refine wpc_sl (n := 2) (c' := 12) (pc' := 61) (ls' := [some (.ref 0), some (.int x1), some (.int x2), some (.int x3), some (.int x4)]) (st' := [.int (6 : Int32), .int x4]) (s' := s) rfl ?_
    refine wpc_icmp (a := 89) (b := 64) rfl (by decide) rfl rfl (wpc_br (p := x4 < (6 : Int32)) ⟨fun hc307 => ?_, fun hc307 => ?_⟩)
    · have h308 := h305.1 hc307
      refine wpc_sl (n := 5) (c' := 12) (pc' := 72) (ls' := [some (.ref 0), some (.int x1), some (.int x2), some (.int x3), some (.int x4)]) (st' := [.int x4, .int x1, .ref 0, .ref 11]) (s' := s) rfl ?_
      refine wpc_callI (m' := 21) (me' := cm21) (as := [.int x1, .int x4]) (r := [.ref 11]) rfl rfl rfl rfl rfl ⟨by decide, (by first | decide | exact Nat.le_of_ble_eq_true rfl), (by first | decide | exact Nat.le_of_ble_eq_true rfl), rfl⟩ (calI.mono h308 fun v311 s310 h312 => ?_)
      refine wpc_ldaI (a := 10) (N := 48) (v := (gI s310 11 (ix v311))) rfl rfl (by decide) h312.1 rfl ?_
      have h313 := h312.2
      refine wpc_sl (n := 1) (c' := 12) (pc' := 77) (ls' := [some (.ref 0), some (.int x1), some (.int x2), some (.int x3), some (.int x4)]) (st' := [.int x2, .int (gI s310 11 (ix v311))]) (s' := s310) rfl ?_
      refine wpc_icmp (a := 83) (b := 80) rfl (by decide) rfl rfl (wpc_br (p := (gI s310 11 (ix v311)) = x2) ⟨fun hc314 => ?_, fun hc314 => ?_⟩)
      · have h315 := h313.1 hc314
        refine wpc_sl (n := 1) (c' := 12) (pc' := 82) (ls' := [some (.ref 0), some (.int x1), some (.int x2), some (.int x3), some (.int x4)]) (st' := [.int x4]) (s' := s310) rfl ?_
        exact wpc_ret rfl rfl (fun q => absurd q (by decide)) rfl ⟨x4, rfl, h315⟩
      · have h316 := h313.2 hc314
        refine wpc_sl (n := 2) (c' := 12) (pc' := 51) (ls' := [some (.ref 0), some (.int x1), some (.int x2), some (.int x3), some (.int (x4 + (1 : Int32)))]) (st' := []) (s' := s310) rfl ?_
        exact h316
    · have h309 := h305.2 hc307
      refine wpc_sl (n := 1) (c' := 12) (pc' := 90) (ls' := [some (.ref 0), some (.int x1), some (.int x2), some (.int x3), some (.int x4)]) (st' := [.int (-1 : Int32)]) (s' := s) rfl ?_
      exact wpc_ret rfl rfl (fun q => absurd q (by decide)) rfl ⟨(-1 : Int32), rfl, h309⟩
  · have h306 := h.2 hc304
    refine wpc_sl (n := 1) (c' := 12) (pc' := 90) (ls' := [some (.ref 0), some (.int x1), some (.int x2), some (.int x3), some (.int x4)]) (st' := [.int (-1 : Int32)]) (s' := s) rfl ?_
    exact wpc_ret rfl rfl (fun q => absurd q (by decide)) rfl ⟨(-1 : Int32), rfl, h306⟩
theorem c26_in (a1 : Int32) (s : St) (Q : Int32 → St → Prop) (h : inb 8 a1 ∧ (((gI s 2 (ix a1)) = (2 : Int32)) → Q (1 : Int32) s) ∧ (¬ ((gI s 2 (ix a1)) = (2 : Int32)) → Q (2 : Int32) s)) : calI PP 26 12 [.ref 0, .int a1] s Q := by
  refine cal_of (me := cm26) (ls := [some (.ref 0), some (.int a1)]) rfl (Nat.le_of_ble_eq_true rfl) rfl ?_
  refine wpc_sl (n := 3) (c' := 12) (pc' := 5) (ls' := [some (.ref 0), some (.int a1)]) (st' := [.int a1, .ref 2]) (s' := s) rfl ?_
  refine wpc_ldaI (a := 1) (N := 8) (v := (gI s 2 (ix a1))) rfl rfl (by decide) h.1 rfl ?_
  have h317 := h.2
  refine wpc_sl (n := 1) (c' := 12) (pc' := 7) (ls' := [some (.ref 0), some (.int a1)]) (st' := [.int (2 : Int32), .int (gI s 2 (ix a1))]) (s' := s) rfl ?_
  refine wpc_icmp (a := 12) (b := 10) rfl (by decide) rfl rfl (wpc_br (p := (gI s 2 (ix a1)) = (2 : Int32)) ⟨fun hc318 => ?_, fun hc318 => ?_⟩)
  · have h319 := h317.1 hc318
    refine wpc_sl (n := 1) (c' := 12) (pc' := 11) (ls' := [some (.ref 0), some (.int a1)]) (st' := [.int (1 : Int32)]) (s' := s) rfl ?_
    exact wpc_ret rfl rfl (fun q => absurd q (by decide)) rfl ⟨(1 : Int32), rfl, h319⟩
  · have h320 := h317.2 hc318
    refine wpc_sl (n := 1) (c' := 12) (pc' := 13) (ls' := [some (.ref 0), some (.int a1)]) (st' := [.int (2 : Int32)]) (s' := s) rfl ?_
    exact wpc_ret rfl rfl (fun q => absurd q (by decide)) rfl ⟨(2 : Int32), rfl, h320⟩
theorem c30_in (a1 : Int32) (s : St) (Q : St → Prop) (h : inb 48 a1 ∧ (((gI s 12 (ix a1)) = (0 : Int32)) → inb 48 a1 ∧ (((gI s 9 (ix a1)) < (0 : Int32)) → Q s) ∧ (¬ ((gI s 9 (ix a1)) < (0 : Int32)) → (((3 : Int32) < (gI s 9 (ix a1))) → Q s) ∧ (¬ ((3 : Int32) < (gI s 9 (ix a1))) → inb 4 (gI s 9 (ix a1)) ∧ inb 48 a1 ∧ (((gI s 1 (ix (gI s 9 (ix a1)))) < (gI s 10 (ix a1))) → inb 48 a1 ∧ Q (sI s 12 (ix a1) (2 : Int32))) ∧ (¬ ((gI s 1 (ix (gI s 9 (ix a1)))) < (gI s 10 (ix a1))) → inb 4 (gI s 9 (ix a1)) ∧ inb 48 a1 ∧ inb 4 (gI s 9 (ix a1)) ∧ inb 48 a1 ∧ Q (sI (sI s 1 (ix (gI s 9 (ix a1))) ((gI s 1 (ix (gI s 9 (ix a1)))) - (gI s 10 (ix a1)))) 12 (ix a1) (1 : Int32)))))) ∧ (¬ ((gI s 12 (ix a1)) = (0 : Int32)) → Q s)) : calV PP 30 12 [.ref 0, .int a1] s Q := by
  refine cal_of (me := cm30) (ls := [some (.ref 0), some (.int a1), none]) rfl (Nat.le_of_ble_eq_true rfl) rfl ?_
  refine wpc_sl (n := 3) (c' := 12) (pc' := 5) (ls' := [some (.ref 0), some (.int a1), none]) (st' := [.int a1, .ref 12]) (s' := s) rfl ?_
  refine wpc_ldaI (a := 11) (N := 48) (v := (gI s 12 (ix a1))) rfl rfl (by decide) h.1 rfl ?_
  have h335 := h.2
  refine wpc_if (a := 10) (b := 9) rfl (by decide) rfl rfl (wpc_br (p := (gI s 12 (ix a1)) = (0 : Int32)) ⟨fun hc336 => ?_, fun hc336 => ?_⟩)
  · have h337 := h335.1 hc336
    refine wpc_sl (n := 3) (c' := 12) (pc' := 15) (ls' := [some (.ref 0), some (.int a1), none]) (st' := [.int a1, .ref 9]) (s' := s) rfl ?_
    refine wpc_ldaI (a := 8) (N := 48) (v := (gI s 9 (ix a1))) rfl rfl (by decide) h337.1 rfl ?_
    have h339 := h337.2
    refine wpc_sl (n := 2) (c' := 12) (pc' := 18) (ls' := [some (.ref 0), some (.int a1), some (.int (gI s 9 (ix a1)))]) (st' := [.int (gI s 9 (ix a1))]) (s' := s) rfl ?_
    refine wpc_if (a := 26) (b := 21) rfl (by decide) rfl rfl (wpc_br (p := (gI s 9 (ix a1)) < (0 : Int32)) ⟨fun hc340 => ?_, fun hc340 => ?_⟩)
    · have h341 := h339.1 hc340
      exact wpc_ret rfl rfl (fun q => absurd q (by decide)) rfl ⟨rfl, h341⟩
    · have h342 := h339.2 hc340
      refine wpc_sl (n := 2) (c' := 12) (pc' := 23) (ls' := [some (.ref 0), some (.int a1), some (.int (gI s 9 (ix a1)))]) (st' := [.int (3 : Int32), .int (gI s 9 (ix a1))]) (s' := s) rfl ?_
      refine wpc_icmp (a := 27) (b := 26) rfl (by decide) rfl rfl (wpc_br (p := (3 : Int32) < (gI s 9 (ix a1))) ⟨fun hc343 => ?_, fun hc343 => ?_⟩)
      · have h344 := h342.1 hc343
        exact wpc_ret rfl rfl (fun q => absurd q (by decide)) rfl ⟨rfl, h344⟩
      · have h345 := h342.2 hc343
        refine wpc_sl (n := 3) (c' := 12) (pc' := 32) (ls' := [some (.ref 0), some (.int a1), some (.int (gI s 9 (ix a1)))]) (st' := [.int (gI s 9 (ix a1)), .ref 1]) (s' := s) rfl ?_
        refine wpc_ldaI (a := 0) (N := 4) (v := (gI s 1 (ix (gI s 9 (ix a1))))) rfl rfl (by decide) h345.1 rfl ?_
        have h346 := h345.2
        refine wpc_sl (n := 3) (c' := 12) (pc' := 38) (ls' := [some (.ref 0), some (.int a1), some (.int (gI s 9 (ix a1)))]) (st' := [.int a1, .ref 10, .int (gI s 1 (ix (gI s 9 (ix a1))))]) (s' := s) rfl ?_
        refine wpc_ldaI (a := 9) (N := 48) (v := (gI s 10 (ix a1))) rfl rfl (by decide) h346.1 rfl ?_
        have h347 := h346.2
        refine wpc_icmp (a := 71) (b := 42) rfl (by decide) rfl rfl (wpc_br (p := (gI s 1 (ix (gI s 9 (ix a1)))) < (gI s 10 (ix a1))) ⟨fun hc348 => ?_, fun hc348 => ?_⟩)
        · have h349 := h347.1 hc348
          refine wpc_sl (n := 4) (c' := 12) (pc' := 77) (ls' := [some (.ref 0), some (.int a1), some (.int (gI s 9 (ix a1)))]) (st' := [.int (2 : Int32), .int a1, .ref 12]) (s' := s) rfl ?_
          refine wpc_staI (a := 11) (N := 48) (s' := (sI s 12 (ix a1) (2 : Int32))) rfl rfl (by decide) h349.1 rfl ?_
          have h351 := h349.2
          exact wpc_ret rfl rfl (fun q => absurd q (by decide)) rfl ⟨rfl, h351⟩
        · have h350 := h347.2 hc348
          refine wpc_sl (n := 6) (c' := 12) (pc' := 52) (ls' := [some (.ref 0), some (.int a1), some (.int (gI s 9 (ix a1)))]) (st' := [.int (gI s 9 (ix a1)), .ref 1, .int (gI s 9 (ix a1)), .ref 1]) (s' := s) rfl ?_
          refine wpc_ldaI (a := 0) (N := 4) (v := (gI s 1 (ix (gI s 9 (ix a1))))) rfl rfl (by decide) h350.1 rfl ?_
          have h352 := h350.2
          refine wpc_sl (n := 3) (c' := 12) (pc' := 58) (ls' := [some (.ref 0), some (.int a1), some (.int (gI s 9 (ix a1)))]) (st' := [.int a1, .ref 10, .int (gI s 1 (ix (gI s 9 (ix a1)))), .int (gI s 9 (ix a1)), .ref 1]) (s' := s) rfl ?_
          refine wpc_ldaI (a := 9) (N := 48) (v := (gI s 10 (ix a1))) rfl rfl (by decide) h352.1 rfl ?_
          have h353 := h352.2
          refine wpc_sl (n := 1) (c' := 12) (pc' := 60) (ls' := [some (.ref 0), some (.int a1), some (.int (gI s 9 (ix a1)))]) (st' := [.int ((gI s 1 (ix (gI s 9 (ix a1)))) - (gI s 10 (ix a1))), .int (gI s 9 (ix a1)), .ref 1]) (s' := s) rfl ?_
          refine wpc_staI (a := 0) (N := 4) (s' := (sI s 1 (ix (gI s 9 (ix a1))) ((gI s 1 (ix (gI s 9 (ix a1)))) - (gI s 10 (ix a1))))) rfl rfl (by decide) h353.1 rfl ?_
          have h354 := h353.2
          refine wpc_sl (n := 4) (c' := 12) (pc' := 67) (ls' := [some (.ref 0), some (.int a1), some (.int (gI s 9 (ix a1)))]) (st' := [.int (1 : Int32), .int a1, .ref 12]) (s' := (sI s 1 (ix (gI s 9 (ix a1))) ((gI s 1 (ix (gI s 9 (ix a1)))) - (gI s 10 (ix a1))))) rfl ?_
          refine wpc_staI (a := 11) (N := 48) (s' := (sI (sI s 1 (ix (gI s 9 (ix a1))) ((gI s 1 (ix (gI s 9 (ix a1)))) - (gI s 10 (ix a1)))) 12 (ix a1) (1 : Int32))) rfl rfl (by decide) h354.1 rfl ?_
          have h355 := h354.2
          refine wpc_sl (n := 1) (c' := 12) (pc' := 78) (ls' := [some (.ref 0), some (.int a1), some (.int (gI s 9 (ix a1)))]) (st' := []) (s' := (sI (sI s 1 (ix (gI s 9 (ix a1))) ((gI s 1 (ix (gI s 9 (ix a1)))) - (gI s 10 (ix a1)))) 12 (ix a1) (1 : Int32))) rfl ?_
          exact wpc_ret rfl rfl (fun q => absurd q (by decide)) rfl ⟨rfl, h355⟩
  · have h338 := h335.2 hc336
    exact wpc_ret rfl rfl (fun q => absurd q (by decide)) rfl ⟨rfl, h338⟩
theorem c31_in (a1 : Int32) (s : St) (Q : St → Prop) (h : inb 48 a1 ∧ (((gI s 9 (ix a1)) < (0 : Int32)) → Q s) ∧ (¬ ((gI s 9 (ix a1)) < (0 : Int32)) → (((3 : Int32) < (gI s 9 (ix a1))) → Q s) ∧ (¬ ((3 : Int32) < (gI s 9 (ix a1))) → inb 48 a1 ∧ (((gI s 12 (ix a1)) = (1 : Int32)) → inb 4 (gI s 9 (ix a1)) ∧ inb 48 a1 ∧ inb 4 (gI s 9 (ix a1)) ∧ inb 48 a1 ∧ Q (sI (sI s 1 (ix (gI s 9 (ix a1))) ((gI s 1 (ix (gI s 9 (ix a1)))) + (gI s 10 (ix a1)))) 12 (ix a1) (3 : Int32))) ∧ (¬ ((gI s 12 (ix a1)) = (1 : Int32)) → inb 48 a1 ∧ (((gI s 12 (ix a1)) = (0 : Int32)) → inb 48 a1 ∧ Q (sI s 12 (ix a1) (4 : Int32))) ∧ (¬ ((gI s 12 (ix a1)) = (0 : Int32)) → Q s))))) : calV PP 31 12 [.ref 0, .int a1] s Q := by
  refine cal_of (me := cm31) (ls := [some (.ref 0), some (.int a1), none]) rfl (Nat.le_of_ble_eq_true rfl) rfl ?_
  refine wpc_sl (n := 3) (c' := 12) (pc' := 5) (ls' := [some (.ref 0), some (.int a1), none]) (st' := [.int a1, .ref 9]) (s' := s) rfl ?_
  refine wpc_ldaI (a := 8) (N := 48) (v := (gI s 9 (ix a1))) rfl rfl (by decide) h.1 rfl ?_
  have h356 := h.2
  refine wpc_sl (n := 2) (c' := 12) (pc' := 8) (ls' := [some (.ref 0), some (.int a1), some (.int (gI s 9 (ix a1)))]) (st' := [.int (gI s 9 (ix a1))]) (s' := s) rfl ?_
  refine wpc_if (a := 16) (b := 11) rfl (by decide) rfl rfl (wpc_br (p := (gI s 9 (ix a1)) < (0 : Int32)) ⟨fun hc357 => ?_, fun hc357 => ?_⟩)
  · have h358 := h356.1 hc357
    exact wpc_ret rfl rfl (fun q => absurd q (by decide)) rfl ⟨rfl, h358⟩
  · have h359 := h356.2 hc357
    refine wpc_sl (n := 2) (c' := 12) (pc' := 13) (ls' := [some (.ref 0), some (.int a1), some (.int (gI s 9 (ix a1)))]) (st' := [.int (3 : Int32), .int (gI s 9 (ix a1))]) (s' := s) rfl ?_
    refine wpc_icmp (a := 17) (b := 16) rfl (by decide) rfl rfl (wpc_br (p := (3 : Int32) < (gI s 9 (ix a1))) ⟨fun hc360 => ?_, fun hc360 => ?_⟩)
    · have h361 := h359.1 hc360
      exact wpc_ret rfl rfl (fun q => absurd q (by decide)) rfl ⟨rfl, h361⟩
    · have h362 := h359.2 hc360
      refine wpc_sl (n := 3) (c' := 12) (pc' := 22) (ls' := [some (.ref 0), some (.int a1), some (.int (gI s 9 (ix a1)))]) (st' := [.int a1, .ref 12]) (s' := s) rfl ?_
      refine wpc_ldaI (a := 11) (N := 48) (v := (gI s 12 (ix a1))) rfl rfl (by decide) h362.1 rfl ?_
      have h363 := h362.2
      refine wpc_sl (n := 1) (c' := 12) (pc' := 24) (ls' := [some (.ref 0), some (.int a1), some (.int (gI s 9 (ix a1)))]) (st' := [.int (1 : Int32), .int (gI s 12 (ix a1))]) (s' := s) rfl ?_
      refine wpc_icmp (a := 56) (b := 27) rfl (by decide) rfl rfl (wpc_br (p := (gI s 12 (ix a1)) = (1 : Int32)) ⟨fun hc364 => ?_, fun hc364 => ?_⟩)
      · have h365 := h363.1 hc364
        refine wpc_sl (n := 6) (c' := 12) (pc' := 37) (ls' := [some (.ref 0), some (.int a1), some (.int (gI s 9 (ix a1)))]) (st' := [.int (gI s 9 (ix a1)), .ref 1, .int (gI s 9 (ix a1)), .ref 1]) (s' := s) rfl ?_
        refine wpc_ldaI (a := 0) (N := 4) (v := (gI s 1 (ix (gI s 9 (ix a1))))) rfl rfl (by decide) h365.1 rfl ?_
        have h367 := h365.2
        refine wpc_sl (n := 3) (c' := 12) (pc' := 43) (ls' := [some (.ref 0), some (.int a1), some (.int (gI s 9 (ix a1)))]) (st' := [.int a1, .ref 10, .int (gI s 1 (ix (gI s 9 (ix a1)))), .int (gI s 9 (ix a1)), .ref 1]) (s' := s) rfl ?_
        refine wpc_ldaI (a := 9) (N := 48) (v := (gI s 10 (ix a1))) rfl rfl (by decide) h367.1 rfl ?_
        have h368 := h367.2
        refine wpc_sl (n := 1) (c' := 12) (pc' := 45) (ls' := [some (.ref 0), some (.int a1), some (.int (gI s 9 (ix a1)))]) (st' := [.int ((gI s 1 (ix (gI s 9 (ix a1)))) + (gI s 10 (ix a1))), .int (gI s 9 (ix a1)), .ref 1]) (s' := s) rfl ?_
        refine wpc_staI (a := 0) (N := 4) (s' := (sI s 1 (ix (gI s 9 (ix a1))) ((gI s 1 (ix (gI s 9 (ix a1)))) + (gI s 10 (ix a1))))) rfl rfl (by decide) h368.1 rfl ?_
        have h369 := h368.2
        refine wpc_sl (n := 4) (c' := 12) (pc' := 52) (ls' := [some (.ref 0), some (.int a1), some (.int (gI s 9 (ix a1)))]) (st' := [.int (3 : Int32), .int a1, .ref 12]) (s' := (sI s 1 (ix (gI s 9 (ix a1))) ((gI s 1 (ix (gI s 9 (ix a1)))) + (gI s 10 (ix a1))))) rfl ?_
        refine wpc_staI (a := 11) (N := 48) (s' := (sI (sI s 1 (ix (gI s 9 (ix a1))) ((gI s 1 (ix (gI s 9 (ix a1)))) + (gI s 10 (ix a1)))) 12 (ix a1) (3 : Int32))) rfl rfl (by decide) h369.1 rfl ?_
        have h370 := h369.2
        refine wpc_sl (n := 1) (c' := 12) (pc' := 72) (ls' := [some (.ref 0), some (.int a1), some (.int (gI s 9 (ix a1)))]) (st' := []) (s' := (sI (sI s 1 (ix (gI s 9 (ix a1))) ((gI s 1 (ix (gI s 9 (ix a1)))) + (gI s 10 (ix a1)))) 12 (ix a1) (3 : Int32))) rfl ?_
        exact wpc_ret rfl rfl (fun q => absurd q (by decide)) rfl ⟨rfl, h370⟩
      · have h366 := h363.2 hc364
        refine wpc_sl (n := 3) (c' := 12) (pc' := 61) (ls' := [some (.ref 0), some (.int a1), some (.int (gI s 9 (ix a1)))]) (st' := [.int a1, .ref 12]) (s' := s) rfl ?_
        refine wpc_ldaI (a := 11) (N := 48) (v := (gI s 12 (ix a1))) rfl rfl (by decide) h366.1 rfl ?_
        have h371 := h366.2
        refine wpc_if (a := 72) (b := 65) rfl (by decide) rfl rfl (wpc_br (p := (gI s 12 (ix a1)) = (0 : Int32)) ⟨fun hc372 => ?_, fun hc372 => ?_⟩)
        · have h373 := h371.1 hc372
          refine wpc_sl (n := 4) (c' := 12) (pc' := 71) (ls' := [some (.ref 0), some (.int a1), some (.int (gI s 9 (ix a1)))]) (st' := [.int (4 : Int32), .int a1, .ref 12]) (s' := s) rfl ?_
          refine wpc_staI (a := 11) (N := 48) (s' := (sI s 12 (ix a1) (4 : Int32))) rfl rfl (by decide) h373.1 rfl ?_
          have h375 := h373.2
          exact wpc_ret rfl rfl (fun q => absurd q (by decide)) rfl ⟨rfl, h375⟩
        · have h374 := h371.2 hc372
          exact wpc_ret rfl rfl (fun q => absurd q (by decide)) rfl ⟨rfl, h374⟩
theorem c29_in (a1 : Int32) (a2 : Int32) (a3 : Int32) (s : St) (Q : Int32 → St → Prop) (h : calI PP 21 12 [.ref 0, .int a1, .int a2] s (fun v322 s321 => ((a3 = (1 : Int32)) → calV PP 30 12 [.ref 0, .int v322] s321 (fun s327 => inb 48 v322 ∧ Q (gI s327 12 (ix v322)) s327)) ∧ (¬ (a3 = (1 : Int32)) → calV PP 31 12 [.ref 0, .int v322] s321 (fun s331 => inb 48 v322 ∧ Q (gI s331 12 (ix v322)) s331)))) : calI PP 29 12 [.ref 0, .int a1, .int a2, .int a3] s Q := by
  refine cal_of (me := cm29) (ls := [some (.ref 0), some (.int a1), some (.int a2), some (.int a3), none]) rfl (Nat.le_of_ble_eq_true rfl) rfl ?_
  refine wpc_sl (n := 3) (c' := 12) (pc' := 3) (ls' := [some (.ref 0), some (.int a1), some (.int a2), some (.int a3), none]) (st' := [.int a2, .int a1, .ref 0]) (s' := s) rfl ?_
  refine wpc_callI (m' := 21) (me' := cm21) (as := [.int a1, .int a2]) (r := []) rfl rfl rfl rfl rfl ⟨by decide, (by first | decide | exact Nat.le_of_ble_eq_true rfl), (by first | decide | exact Nat.le_of_ble_eq_true rfl), rfl⟩ (calI.mono h fun v322 s321 h323 => ?_)
  refine wpc_sl (n := 3) (c' := 12) (pc' := 10) (ls' := [some (.ref 0), some (.int a1), some (.int a2), some (.int a3), some (.int v322)]) (st' := [.int (1 : Int32), .int a3]) (s' := s321) rfl ?_
  refine wpc_icmp (a := 22) (b := 13) rfl (by decide) rfl rfl (wpc_br (p := a3 = (1 : Int32)) ⟨fun hc324 => ?_, fun hc324 => ?_⟩)
  · have h325 := h323.1 hc324
    refine wpc_sl (n := 2) (c' := 12) (pc' := 16) (ls' := [some (.ref 0), some (.int a1), some (.int a2), some (.int a3), some (.int v322)]) (st' := [.int v322, .ref 0]) (s' := s321) rfl ?_
    refine wpc_callV (m' := 30) (me' := cm30) (as := [.int v322]) (r := []) rfl rfl rfl rfl rfl ⟨by decide, (by first | decide | exact Nat.le_of_ble_eq_true rfl), (by first | decide | exact Nat.le_of_ble_eq_true rfl), rfl⟩ (calV.mono h325 fun s327 h329 => ?_)
    refine wpc_sl (n := 4) (c' := 12) (pc' := 34) (ls' := [some (.ref 0), some (.int a1), some (.int a2), some (.int a3), some (.int v322)]) (st' := [.int v322, .ref 12]) (s' := s327) rfl ?_
    refine wpc_ldaI (a := 11) (N := 48) (v := (gI s327 12 (ix v322))) rfl rfl (by decide) h329.1 rfl ?_
    have h330 := h329.2
    exact wpc_ret rfl rfl (fun q => absurd q (by decide)) rfl ⟨(gI s327 12 (ix v322)), rfl, h330⟩
  · have h326 := h323.2 hc324
    refine wpc_sl (n := 2) (c' := 12) (pc' := 25) (ls' := [some (.ref 0), some (.int a1), some (.int a2), some (.int a3), some (.int v322)]) (st' := [.int v322, .ref 0]) (s' := s321) rfl ?_
    refine wpc_callV (m' := 31) (me' := cm31) (as := [.int v322]) (r := []) rfl rfl rfl rfl rfl ⟨by decide, (by first | decide | exact Nat.le_of_ble_eq_true rfl), (by first | decide | exact Nat.le_of_ble_eq_true rfl), rfl⟩ (calV.mono h326 fun s331 h333 => ?_)
    refine wpc_sl (n := 3) (c' := 12) (pc' := 34) (ls' := [some (.ref 0), some (.int a1), some (.int a2), some (.int a3), some (.int v322)]) (st' := [.int v322, .ref 12]) (s' := s331) rfl ?_
    refine wpc_ldaI (a := 11) (N := 48) (v := (gI s331 12 (ix v322))) rfl rfl (by decide) h333.1 rfl ?_
    have h334 := h333.2
    exact wpc_ret rfl rfl (fun q => absurd q (by decide)) rfl ⟨(gI s331 12 (ix v322)), rfl, h334⟩
theorem c28_in (a1 : Int32) (a2 : Int32) (s : St) (Q : Int32 → St → Prop) (h : ((a1 = (2 : Int32)) → Q (0 : Int32) s) ∧ (¬ (a1 = (2 : Int32)) → ((a2 = (1 : Int32)) → Q (0 : Int32) s) ∧ (¬ (a2 = (1 : Int32)) → ((a2 = (3 : Int32)) → Q (0 : Int32) s) ∧ (¬ (a2 = (3 : Int32)) → Q (1 : Int32) s)))) : calI PP 28 12 [.ref 0, .int a1, .int a2] s Q := by
  refine cal_of (me := cm28) (ls := [some (.ref 0), some (.int a1), some (.int a2)]) rfl (Nat.le_of_ble_eq_true rfl) rfl ?_
  refine wpc_sl (n := 2) (c' := 12) (pc' := 2) (ls' := [some (.ref 0), some (.int a1), some (.int a2)]) (st' := [.int (2 : Int32), .int a1]) (s' := s) rfl ?_
  refine wpc_icmp (a := 7) (b := 5) rfl (by decide) rfl rfl (wpc_br (p := a1 = (2 : Int32)) ⟨fun hc376 => ?_, fun hc376 => ?_⟩)
  · have h377 := h.1 hc376
    refine wpc_sl (n := 1) (c' := 12) (pc' := 6) (ls' := [some (.ref 0), some (.int a1), some (.int a2)]) (st' := [.int (0 : Int32)]) (s' := s) rfl ?_
    exact wpc_ret rfl rfl (fun q => absurd q (by decide)) rfl ⟨(0 : Int32), rfl, h377⟩
  · have h378 := h.2 hc376
    refine wpc_sl (n := 2) (c' := 12) (pc' := 9) (ls' := [some (.ref 0), some (.int a1), some (.int a2)]) (st' := [.int (1 : Int32), .int a2]) (s' := s) rfl ?_
    refine wpc_icmp (a := 17) (b := 12) rfl (by decide) rfl rfl (wpc_br (p := a2 = (1 : Int32)) ⟨fun hc379 => ?_, fun hc379 => ?_⟩)
    · have h380 := h378.1 hc379
      refine wpc_sl (n := 1) (c' := 12) (pc' := 18) (ls' := [some (.ref 0), some (.int a1), some (.int a2)]) (st' := [.int (0 : Int32)]) (s' := s) rfl ?_
      exact wpc_ret rfl rfl (fun q => absurd q (by decide)) rfl ⟨(0 : Int32), rfl, h380⟩
    · have h381 := h378.2 hc379
      refine wpc_sl (n := 2) (c' := 12) (pc' := 14) (ls' := [some (.ref 0), some (.int a1), some (.int a2)]) (st' := [.int (3 : Int32), .int a2]) (s' := s) rfl ?_
      refine wpc_icmp (a := 19) (b := 17) rfl (by decide) rfl rfl (wpc_br (p := a2 = (3 : Int32)) ⟨fun hc382 => ?_, fun hc382 => ?_⟩)
      · have h383 := h381.1 hc382
        refine wpc_sl (n := 1) (c' := 12) (pc' := 18) (ls' := [some (.ref 0), some (.int a1), some (.int a2)]) (st' := [.int (0 : Int32)]) (s' := s) rfl ?_
        exact wpc_ret rfl rfl (fun q => absurd q (by decide)) rfl ⟨(0 : Int32), rfl, h383⟩
      · have h384 := h381.2 hc382
        refine wpc_sl (n := 1) (c' := 12) (pc' := 20) (ls' := [some (.ref 0), some (.int a1), some (.int a2)]) (st' := [.int (1 : Int32)]) (s' := s) rfl ?_
        exact wpc_ret rfl rfl (fun q => absurd q (by decide)) rfl ⟨(1 : Int32), rfl, h384⟩
theorem c24_in (a1 : Int32) (a2 : Int32) (a3 : Int32) (a4 : Int32) (s : St) (Q : St → Prop) (h : inb 8 a1 ∧ inb 8 a1 ∧ inb 8 a1 ∧ inb 8 a1 ∧ Q (sI (sI (sI (sI s 5 (ix a1) (1 : Int32)) 6 (ix a1) a2) 7 (ix a1) a3) 8 (ix a1) a4)) : calV PP 24 12 [.ref 0, .int a1, .int a2, .int a3, .int a4] s Q := by
  refine cal_of (me := cm24) (ls := [some (.ref 0), some (.int a1), some (.int a2), some (.int a3), some (.int a4)]) rfl (Nat.le_of_ble_eq_true rfl) rfl ?_
  refine wpc_sl (n := 4) (c' := 12) (pc' := 6) (ls' := [some (.ref 0), some (.int a1), some (.int a2), some (.int a3), some (.int a4)]) (st' := [.int (1 : Int32), .int a1, .ref 5]) (s' := s) rfl ?_
  refine wpc_staZ (a := 4) (N := 8) (s' := (sI s 5 (ix a1) (1 : Int32))) rfl rfl (by decide) h.1 rfl ?_
  have h385 := h.2
  refine wpc_sl (n := 4) (c' := 12) (pc' := 13) (ls' := [some (.ref 0), some (.int a1), some (.int a2), some (.int a3), some (.int a4)]) (st' := [.int a2, .int a1, .ref 6]) (s' := (sI s 5 (ix a1) (1 : Int32))) rfl ?_
  refine wpc_staI (a := 5) (N := 8) (s' := (sI (sI s 5 (ix a1) (1 : Int32)) 6 (ix a1) a2)) rfl rfl (by decide) h385.1 rfl ?_
  have h386 := h385.2
  refine wpc_sl (n := 4) (c' := 12) (pc' := 20) (ls' := [some (.ref 0), some (.int a1), some (.int a2), some (.int a3), some (.int a4)]) (st' := [.int a3, .int a1, .ref 7]) (s' := (sI (sI s 5 (ix a1) (1 : Int32)) 6 (ix a1) a2)) rfl ?_
  refine wpc_staI (a := 6) (N := 8) (s' := (sI (sI (sI s 5 (ix a1) (1 : Int32)) 6 (ix a1) a2) 7 (ix a1) a3)) rfl rfl (by decide) h386.1 rfl ?_
  have h387 := h386.2
  refine wpc_sl (n := 4) (c' := 12) (pc' := 28) (ls' := [some (.ref 0), some (.int a1), some (.int a2), some (.int a3), some (.int a4)]) (st' := [.int a4, .int a1, .ref 8]) (s' := (sI (sI (sI s 5 (ix a1) (1 : Int32)) 6 (ix a1) a2) 7 (ix a1) a3)) rfl ?_
  refine wpc_staI (a := 7) (N := 8) (s' := (sI (sI (sI (sI s 5 (ix a1) (1 : Int32)) 6 (ix a1) a2) 7 (ix a1) a3) 8 (ix a1) a4)) rfl rfl (by decide) h387.1 rfl ?_
  have h388 := h387.2
  exact wpc_ret rfl rfl (fun q => absurd q (by decide)) rfl ⟨rfl, h388⟩
theorem c5_in (a1 : Int32) (s : St) (Q : Int32 → St → Prop) (h : (((gI s 0 37) = (0 : Int32)) → Q (-1 : Int32) s) ∧ (¬ ((gI s 0 37) = (0 : Int32)) → calI PP 19 12 [.ref 0, .int a1] s (fun v269 s268 => ((v269 = (0 : Int32)) → Q (-1 : Int32) s268) ∧ (¬ (v269 = (0 : Int32)) → calI PP 25 12 [.ref 0, .int a1] s268 (fun v275 s274 => ((v275 < (0 : Int32)) → Q (-1 : Int32) s274) ∧ (¬ (v275 < (0 : Int32)) → calI PP 26 12 [.ref 0, .int a1] s274 (fun v281 s280 => calI PP 29 12 [.ref 0, .int a1, .int v275, .int v281] s280 (fun v284 s283 => calI PP 28 12 [.ref 0, .int v281, .int v284] s283 (fun v287 s286 => calV PP 24 12 [.ref 0, .int a1, .int v275, .int v281, .int v287] s286 (fun s289 => Q v284 s289)))))))))) : calI PP 5 12 [.ref 0, .int a1] s Q := by
  refine cal_of (me := cm5) (ls := [some (.ref 0), some (.int a1), none, none, none, none]) rfl (Nat.le_of_ble_eq_true rfl) rfl ?_
  refine wpc_sl (n := 2) (c' := 12) (pc' := 4) (ls' := [some (.ref 0), some (.int a1), none, none, none, none]) (st' := [.int (gI s 0 37)]) (s' := s) rfl ?_
  refine wpc_if (a := 9) (b := 7) rfl (by decide) rfl rfl (wpc_br (p := (gI s 0 37) = (0 : Int32)) ⟨fun hc265 => ?_, fun hc265 => ?_⟩)
  · have h266 := h.1 hc265
    refine wpc_sl (n := 1) (c' := 12) (pc' := 8) (ls' := [some (.ref 0), some (.int a1), none, none, none, none]) (st' := [.int (-1 : Int32)]) (s' := s) rfl ?_
    exact wpc_ret rfl rfl (fun q => absurd q (by decide)) rfl ⟨(-1 : Int32), rfl, h266⟩
  · have h267 := h.2 hc265
    refine wpc_sl (n := 2) (c' := 12) (pc' := 11) (ls' := [some (.ref 0), some (.int a1), none, none, none, none]) (st' := [.int a1, .ref 0]) (s' := s) rfl ?_
    refine wpc_callI (m' := 19) (me' := cm19) (as := [.int a1]) (r := []) rfl rfl rfl rfl rfl ⟨by decide, (by first | decide | exact Nat.le_of_ble_eq_true rfl), (by first | decide | exact Nat.le_of_ble_eq_true rfl), rfl⟩ (calI.mono h267 fun v269 s268 h270 => ?_)
    refine wpc_if (a := 19) (b := 17) rfl (by decide) rfl rfl (wpc_br (p := v269 = (0 : Int32)) ⟨fun hc271 => ?_, fun hc271 => ?_⟩)
    · have h272 := h270.1 hc271
      refine wpc_sl (n := 1) (c' := 12) (pc' := 18) (ls' := [some (.ref 0), some (.int a1), none, none, none, none]) (st' := [.int (-1 : Int32)]) (s' := s268) rfl ?_
      exact wpc_ret rfl rfl (fun q => absurd q (by decide)) rfl ⟨(-1 : Int32), rfl, h272⟩
    · have h273 := h270.2 hc271
      refine wpc_sl (n := 2) (c' := 12) (pc' := 21) (ls' := [some (.ref 0), some (.int a1), none, none, none, none]) (st' := [.int a1, .ref 0]) (s' := s268) rfl ?_
      refine wpc_callI (m' := 25) (me' := cm25) (as := [.int a1]) (r := []) rfl rfl rfl rfl rfl ⟨by decide, (by first | decide | exact Nat.le_of_ble_eq_true rfl), (by first | decide | exact Nat.le_of_ble_eq_true rfl), rfl⟩ (calI.mono h273 fun v275 s274 h276 => ?_)
      refine wpc_sl (n := 2) (c' := 12) (pc' := 26) (ls' := [some (.ref 0), some (.int a1), some (.int v275), none, none, none]) (st' := [.int v275]) (s' := s274) rfl ?_
      refine wpc_if (a := 31) (b := 29) rfl (by decide) rfl rfl (wpc_br (p := v275 < (0 : Int32)) ⟨fun hc277 => ?_, fun hc277 => ?_⟩)
      · have h278 := h276.1 hc277
        refine wpc_sl (n := 1) (c' := 12) (pc' := 30) (ls' := [some (.ref 0), some (.int a1), some (.int v275), none, none, none]) (st' := [.int (-1 : Int32)]) (s' := s274) rfl ?_
        exact wpc_ret rfl rfl (fun q => absurd q (by decide)) rfl ⟨(-1 : Int32), rfl, h278⟩
      · have h279 := h276.2 hc277
        refine wpc_sl (n := 2) (c' := 12) (pc' := 33) (ls' := [some (.ref 0), some (.int a1), some (.int v275), none, none, none]) (st' := [.int a1, .ref 0]) (s' := s274) rfl ?_
        refine wpc_callI (m' := 26) (me' := cm26) (as := [.int a1]) (r := []) rfl rfl rfl rfl rfl ⟨by decide, (by first | decide | exact Nat.le_of_ble_eq_true rfl), (by first | decide | exact Nat.le_of_ble_eq_true rfl), rfl⟩ (calI.mono h279 fun v281 s280 h282 => ?_)
        refine wpc_sl (n := 5) (c' := 12) (pc' := 41) (ls' := [some (.ref 0), some (.int a1), some (.int v275), some (.int v281), none, none]) (st' := [.int v281, .int v275, .int a1, .ref 0]) (s' := s280) rfl ?_
        refine wpc_callI (m' := 29) (me' := cm29) (as := [.int a1, .int v275, .int v281]) (r := []) rfl rfl rfl rfl rfl ⟨by decide, (by first | decide | exact Nat.le_of_ble_eq_true rfl), (by first | decide | exact Nat.le_of_ble_eq_true rfl), rfl⟩ (calI.mono h282 fun v284 s283 h285 => ?_)
        refine wpc_sl (n := 4) (c' := 12) (pc' := 50) (ls' := [some (.ref 0), some (.int a1), some (.int v275), some (.int v281), some (.int v284), none]) (st' := [.int v284, .int v281, .ref 0]) (s' := s283) rfl ?_
        refine wpc_callI (m' := 28) (me' := cm28) (as := [.int v281, .int v284]) (r := []) rfl rfl rfl rfl rfl ⟨by decide, (by first | decide | exact Nat.le_of_ble_eq_true rfl), (by first | decide | exact Nat.le_of_ble_eq_true rfl), rfl⟩ (calI.mono h285 fun v287 s286 h288 => ?_)
        refine wpc_sl (n := 6) (c' := 12) (pc' := 61) (ls' := [some (.ref 0), some (.int a1), some (.int v275), some (.int v281), some (.int v284), some (.int v287)]) (st' := [.int v287, .int v281, .int v275, .int a1, .ref 0]) (s' := s286) rfl ?_
        refine wpc_callV (m' := 24) (me' := cm24) (as := [.int a1, .int v275, .int v281, .int v287]) (r := []) rfl rfl rfl rfl rfl ⟨by decide, (by first | decide | exact Nat.le_of_ble_eq_true rfl), (by first | decide | exact Nat.le_of_ble_eq_true rfl), rfl⟩ (calV.mono h288 fun s289 h291 => ?_)
        refine wpc_sl (n := 1) (c' := 12) (pc' := 66) (ls' := [some (.ref 0), some (.int a1), some (.int v275), some (.int v281), some (.int v284), some (.int v287)]) (st' := [.int v284]) (s' := s289) rfl ?_
        exact wpc_ret rfl rfl (fun q => absurd q (by decide)) rfl ⟨v284, rfl, h291⟩
theorem c32_in (a1 : Int32) (a2 : Int32) (s : St) (Q : St → Prop) (h : calI PP 21 12 [.ref 0, .int a1, .int a2] s (fun v440 s439 => inb 48 v440 ∧ inb 8 a1 ∧ ((a2 < ((gI s439 3 (ix a1)) - (1 : Int32))) → calI PP 21 12 [.ref 0, .int a1, .int (a2 + (1 : Int32))] (sI s439 11 (ix v440) (2 : Int32)) (fun v448 s447 => inb 48 v448 ∧ inb 8 a1 ∧ Q (sI (sI s447 11 (ix v448) (1 : Int32)) 4 (ix a1) (0 : Int32)))) ∧ (¬ (a2 < ((gI s439 3 (ix a1)) - (1 : Int32))) → inb 8 a1 ∧ Q (sI (sI s439 11 (ix v440) (2 : Int32)) 2 (ix a1) (4 : Int32))))) : calV PP 32 12 [.ref 0, .int a1, .int a2] s Q := by
  refine cal_of (me := cm32) (ls := [some (.ref 0), some (.int a1), some (.int a2)]) rfl (Nat.le_of_ble_eq_true rfl) rfl ?_
  refine wpc_sl (n := 5) (c' := 12) (pc' := 7) (ls' := [some (.ref 0), some (.int a1), some (.int a2)]) (st' := [.int a2, .int a1, .ref 0, .ref 11]) (s' := s) rfl ?_
  refine wpc_callI (m' := 21) (me' := cm21) (as := [.int a1, .int a2]) (r := [.ref 11]) rfl rfl rfl rfl rfl ⟨by decide, (by first | decide | exact Nat.le_of_ble_eq_true rfl), (by first | decide | exact Nat.le_of_ble_eq_true rfl), rfl⟩ (calI.mono h fun v440 s439 h441 => ?_)
  refine wpc_sl (n := 1) (c' := 12) (pc' := 11) (ls' := [some (.ref 0), some (.int a1), some (.int a2)]) (st' := [.int (2 : Int32), .int v440, .ref 11]) (s' := s439) rfl ?_
  refine wpc_staI (a := 10) (N := 48) (s' := (sI s439 11 (ix v440) (2 : Int32))) rfl rfl (by decide) h441.1 rfl ?_
  have h442 := h441.2
  refine wpc_sl (n := 4) (c' := 12) (pc' := 18) (ls' := [some (.ref 0), some (.int a1), some (.int a2)]) (st' := [.int a1, .ref 3, .int a2]) (s' := (sI s439 11 (ix v440) (2 : Int32))) rfl ?_
  refine wpc_ldaI (a := 2) (N := 8) (v := (gI s439 3 (ix a1))) rfl rfl (by decide) h442.1 rfl ?_
  have h443 := h442.2
  refine wpc_sl (n := 2) (c' := 12) (pc' := 21) (ls' := [some (.ref 0), some (.int a1), some (.int a2)]) (st' := [.int ((gI s439 3 (ix a1)) - (1 : Int32)), .int a2]) (s' := (sI s439 11 (ix v440) (2 : Int32))) rfl ?_
  refine wpc_icmp (a := 32) (b := 24) rfl (by decide) rfl rfl (wpc_br (p := a2 < ((gI s439 3 (ix a1)) - (1 : Int32))) ⟨fun hc444 => ?_, fun hc444 => ?_⟩)
  · have h445 := h443.1 hc444
    refine wpc_sl (n := 7) (c' := 12) (pc' := 41) (ls' := [some (.ref 0), some (.int a1), some (.int a2)]) (st' := [.int (a2 + (1 : Int32)), .int a1, .ref 0, .ref 11]) (s' := (sI s439 11 (ix v440) (2 : Int32))) rfl ?_
    refine wpc_callI (m' := 21) (me' := cm21) (as := [.int a1, .int (a2 + (1 : Int32))]) (r := [.ref 11]) rfl rfl rfl rfl rfl ⟨by decide, (by first | decide | exact Nat.le_of_ble_eq_true rfl), (by first | decide | exact Nat.le_of_ble_eq_true rfl), rfl⟩ (calI.mono h445 fun v448 s447 h449 => ?_)
    refine wpc_sl (n := 1) (c' := 12) (pc' := 45) (ls' := [some (.ref 0), some (.int a1), some (.int a2)]) (st' := [.int (1 : Int32), .int v448, .ref 11]) (s' := s447) rfl ?_
    refine wpc_staI (a := 10) (N := 48) (s' := (sI s447 11 (ix v448) (1 : Int32))) rfl rfl (by decide) h449.1 rfl ?_
    have h450 := h449.2
    refine wpc_sl (n := 4) (c' := 12) (pc' := 52) (ls' := [some (.ref 0), some (.int a1), some (.int a2)]) (st' := [.int (0 : Int32), .int a1, .ref 4]) (s' := (sI s447 11 (ix v448) (1 : Int32))) rfl ?_
    refine wpc_staI (a := 3) (N := 8) (s' := (sI (sI s447 11 (ix v448) (1 : Int32)) 4 (ix a1) (0 : Int32))) rfl rfl (by decide) h450.1 rfl ?_
    have h451 := h450.2
    exact wpc_ret rfl rfl (fun q => absurd q (by decide)) rfl ⟨rfl, h451⟩
  · have h446 := h443.2 hc444
    refine wpc_sl (n := 4) (c' := 12) (pc' := 30) (ls' := [some (.ref 0), some (.int a1), some (.int a2)]) (st' := [.int (4 : Int32), .int a1, .ref 2]) (s' := (sI s439 11 (ix v440) (2 : Int32))) rfl ?_
    refine wpc_staI (a := 1) (N := 8) (s' := (sI (sI s439 11 (ix v440) (2 : Int32)) 2 (ix a1) (4 : Int32))) rfl rfl (by decide) h446.1 rfl ?_
    have h452 := h446.2
    exact wpc_ret rfl rfl (fun q => absurd q (by decide)) rfl ⟨rfl, h452⟩
theorem c36_in (a1 : Int32) (s : St) (Q : Int32 → St → Prop) (h : inb 8 a1 ∧ ∀ m474, m474 = (if (6 : Int32) < (gI s 3 (ix a1)) then (6 : Int32) else (gI s 3 (ix a1))) → (wpcI PP 36 cm36 12 20 [some (.ref 0), some (.int a1), none, some (.int (m474 - (1 : Int32)))] [] s Q)) : calI PP 36 12 [.ref 0, .int a1] s Q := by
  refine cal_of (me := cm36) (ls := [some (.ref 0), some (.int a1), none, none]) rfl (Nat.le_of_ble_eq_true rfl) rfl ?_
  refine wpc_sl (n := 3) (c' := 12) (pc' := 5) (ls' := [some (.ref 0), some (.int a1), none, none]) (st' := [.int a1, .ref 3]) (s' := s) rfl ?_
  refine wpc_ldaI (a := 2) (N := 8) (v := (gI s 3 (ix a1))) rfl rfl (by decide) h.1 rfl ?_
  have h473 := h.2
  refine wpc_sl (n := 3) (c' := 12) (pc' := 10) (ls' := [some (.ref 0), some (.int a1), some (.int (gI s 3 (ix a1))), none]) (st' := [.int (6 : Int32), .int (gI s 3 (ix a1))]) (s' := s) rfl ?_
  have hm475 : ∀ m474, m474 = (if (6 : Int32) < (gI s 3 (ix a1)) then (6 : Int32) else (gI s 3 (ix a1))) → wpcI PP 36 cm36 12 16 [some (.ref 0), some (.int a1), some (.int m474), none] [] s Q := by
    intro m474 em474
    have h476 := h473 m474 em474
    refine wpc_sl (n := 4) (c' := 12) (pc' := 20) (ls' := [some (.ref 0), some (.int a1), some (.int m474), some (.int (m474 - (1 : Int32)))]) (st' := []) (s' := s) rfl ?_
    exact wpc_lle (ls := [some (.ref 0), some (.int a1), none, some (.int (m474 - (1 : Int32)))]) ⟨rfl, rfl, rfl, trivial⟩ h476
  refine wpc_icmp (a := 16) (b := 13) rfl (by decide) rfl rfl (wpc_br (p := (6 : Int32) < (gI s 3 (ix a1))) ⟨fun hc477 => ?_, fun hc477 => ?_⟩)
  · refine wpc_sl (n := 2) (c' := 12) (pc' := 16) (ls' := [some (.ref 0), some (.int a1), some (.int (6 : Int32)), none]) (st' := []) (s' := s) rfl ?_
    first | exact hm475 _ (by simp only [if_pos hc477]) | exact wpc_lle (by repeat (first | exact trivial | refine ⟨rfl, ?_⟩)) (hm475 _ (by simp only [if_pos hc477]))
  · first | exact hm475 _ (by simp only [if_neg hc477]) | exact wpc_lle (by repeat (first | exact trivial | refine ⟨rfl, ?_⟩)) (hm475 _ (by simp only [if_neg hc477]))
theorem c36_20 (x1 : Int32) (x3 : Int32) (s : St) (Q : Int32 → St → Prop) (h : ((x3 < (0 : Int32)) → Q (-1 : Int32) s) ∧ (¬ (x3 < (0 : Int32)) → calI PP 21 12 [.ref 0, .int x1, .int x3] s (fun v482 s481 => inb 48 v482 ∧ (((gI s481 11 (ix v482)) = (2 : Int32)) → Q x3 s481) ∧ (¬ ((gI s481 11 (ix v482)) = (2 : Int32)) → wpcI PP 36 cm36 12 20 [some (.ref 0), some (.int x1), none, some (.int (x3 + (-1 : Int32)))] [] s481 Q)))) : wpcI PP 36 cm36 12 20 [some (.ref 0), some (.int x1), none, some (.int x3)] [] s Q := by
  refine wpc_sl (n := 1) (c' := 12) (pc' := 21) (ls' := [some (.ref 0), some (.int x1), none, some (.int x3)]) (st' := [.int x3]) (s' := s) rfl ?_
  refine wpc_if (a := 47) (b := 24) rfl (by decide) rfl rfl (wpc_br (p := x3 < (0 : Int32)) ⟨fun hc478 => ?_, fun hc478 => ?_⟩)
  · have h479 := h.1 hc478
    refine wpc_sl (n := 1) (c' := 12) (pc' := 48) (ls' := [some (.ref 0), some (.int x1), none, some (.int x3)]) (st' := [.int (-1 : Int32)]) (s' := s) rfl ?_
    exact wpc_ret rfl rfl (fun q => absurd q (by decide)) rfl ⟨(-1 : Int32), rfl, h479⟩
  · have h480 := h.2 hc478
    refine wpc_sl (n := 5) (c' := 12) (pc' := 31) (ls' := [some (.ref 0), some (.int x1), none, some (.int x3)]) (st' := [.int x3, .int x1, .ref 0, .ref 11]) (s' := s) rfl ?_
    refine wpc_callI (m' := 21) (me' := cm21) (as := [.int x1, .int x3]) (r := [.ref 11]) rfl rfl rfl rfl rfl ⟨by decide, (by first | decide | exact Nat.le_of_ble_eq_true rfl), (by first | decide | exact Nat.le_of_ble_eq_true rfl), rfl⟩ (calI.mono h480 fun v482 s481 h483 => ?_)
    refine wpc_ldaI (a := 10) (N := 48) (v := (gI s481 11 (ix v482))) rfl rfl (by decide) h483.1 rfl ?_
    have h484 := h483.2
    refine wpc_sl (n := 1) (c' := 12) (pc' := 36) (ls' := [some (.ref 0), some (.int x1), none, some (.int x3)]) (st' := [.int (2 : Int32), .int (gI s481 11 (ix v482))]) (s' := s481) rfl ?_
    refine wpc_icmp (a := 41) (b := 39) rfl (by decide) rfl rfl (wpc_br (p := (gI s481 11 (ix v482)) = (2 : Int32)) ⟨fun hc485 => ?_, fun hc485 => ?_⟩)
    · have h486 := h484.1 hc485
      refine wpc_sl (n := 1) (c' := 12) (pc' := 40) (ls' := [some (.ref 0), some (.int x1), none, some (.int x3)]) (st' := [.int x3]) (s' := s481) rfl ?_
      exact wpc_ret rfl rfl (fun q => absurd q (by decide)) rfl ⟨x3, rfl, h486⟩
    · have h487 := h484.2 hc485
      refine wpc_sl (n := 2) (c' := 12) (pc' := 20) (ls' := [some (.ref 0), some (.int x1), none, some (.int (x3 + (-1 : Int32)))]) (st' := []) (s' := s481) rfl ?_
      exact h487
theorem c37_in (a1 : Int32) (s : St) (Q : St → Prop) (h : inb 8 a1 ∧ calI PP 36 12 [.ref 0, .int a1] (sI s 2 (ix a1) (3 : Int32)) (fun v462 s461 => ((v462 < (0 : Int32)) → inb 8 a1 ∧ Q (sI s461 2 (ix a1) (5 : Int32))) ∧ (¬ (v462 < (0 : Int32)) → calI PP 21 12 [.ref 0, .int a1, .int v462] s461 (fun v469 s468 => inb 48 v469 ∧ inb 8 a1 ∧ Q (sI (sI s468 11 (ix v469) (4 : Int32)) 4 (ix a1) (0 : Int32)))))) : calV PP 37 12 [.ref 0, .int a1] s Q := by
  refine cal_of (me := cm37) (ls := [some (.ref 0), some (.int a1), none]) rfl (Nat.le_of_ble_eq_true rfl) rfl ?_
  refine wpc_sl (n := 4) (c' := 12) (pc' := 6) (ls' := [some (.ref 0), some (.int a1), none]) (st' := [.int (3 : Int32), .int a1, .ref 2]) (s' := s) rfl ?_
  refine wpc_staI (a := 1) (N := 8) (s' := (sI s 2 (ix a1) (3 : Int32))) rfl rfl (by decide) h.1 rfl ?_
  have h460 := h.2
  refine wpc_sl (n := 2) (c' := 12) (pc' := 9) (ls' := [some (.ref 0), some (.int a1), none]) (st' := [.int a1, .ref 0]) (s' := (sI s 2 (ix a1) (3 : Int32))) rfl ?_
  refine wpc_callI (m' := 36) (me' := cm36) (as := [.int a1]) (r := []) rfl rfl rfl rfl rfl ⟨by decide, (by first | decide | exact Nat.le_of_ble_eq_true rfl), (by first | decide | exact Nat.le_of_ble_eq_true rfl), rfl⟩ (calI.mono h460 fun v462 s461 h463 => ?_)
  refine wpc_sl (n := 2) (c' := 12) (pc' := 14) (ls' := [some (.ref 0), some (.int a1), some (.int v462)]) (st' := [.int v462]) (s' := s461) rfl ?_
  refine wpc_if (a := 25) (b := 17) rfl (by decide) rfl rfl (wpc_br (p := v462 < (0 : Int32)) ⟨fun hc464 => ?_, fun hc464 => ?_⟩)
  · have h465 := h463.1 hc464
    refine wpc_sl (n := 4) (c' := 12) (pc' := 23) (ls' := [some (.ref 0), some (.int a1), some (.int v462)]) (st' := [.int (5 : Int32), .int a1, .ref 2]) (s' := s461) rfl ?_
    refine wpc_staI (a := 1) (N := 8) (s' := (sI s461 2 (ix a1) (5 : Int32))) rfl rfl (by decide) h465.1 rfl ?_
    have h467 := h465.2
    exact wpc_ret rfl rfl (fun q => absurd q (by decide)) rfl ⟨rfl, h467⟩
  · have h466 := h463.2 hc464
    refine wpc_sl (n := 5) (c' := 12) (pc' := 32) (ls' := [some (.ref 0), some (.int a1), some (.int v462)]) (st' := [.int v462, .int a1, .ref 0, .ref 11]) (s' := s461) rfl ?_
    refine wpc_callI (m' := 21) (me' := cm21) (as := [.int a1, .int v462]) (r := [.ref 11]) rfl rfl rfl rfl rfl ⟨by decide, (by first | decide | exact Nat.le_of_ble_eq_true rfl), (by first | decide | exact Nat.le_of_ble_eq_true rfl), rfl⟩ (calI.mono h466 fun v469 s468 h470 => ?_)
    refine wpc_sl (n := 1) (c' := 12) (pc' := 36) (ls' := [some (.ref 0), some (.int a1), some (.int v462)]) (st' := [.int (4 : Int32), .int v469, .ref 11]) (s' := s468) rfl ?_
    refine wpc_staI (a := 10) (N := 48) (s' := (sI s468 11 (ix v469) (4 : Int32))) rfl rfl (by decide) h470.1 rfl ?_
    have h471 := h470.2
    refine wpc_sl (n := 4) (c' := 12) (pc' := 43) (ls' := [some (.ref 0), some (.int a1), some (.int v462)]) (st' := [.int (0 : Int32), .int a1, .ref 4]) (s' := (sI s468 11 (ix v469) (4 : Int32))) rfl ?_
    refine wpc_staI (a := 3) (N := 8) (s' := (sI (sI s468 11 (ix v469) (4 : Int32)) 4 (ix a1) (0 : Int32))) rfl rfl (by decide) h471.1 rfl ?_
    have h472 := h471.2
    exact wpc_ret rfl rfl (fun q => absurd q (by decide)) rfl ⟨rfl, h472⟩
theorem c33_in (a1 : Int32) (a2 : Int32) (s : St) (Q : St → Prop) (h : calI PP 21 12 [.ref 0, .int a1, .int a2] s (fun v454 s453 => inb 48 v454 ∧ calV PP 37 12 [.ref 0, .int a1] (sI s453 11 (ix v454) (3 : Int32)) (fun s457 => Q s457))) : calV PP 33 12 [.ref 0, .int a1, .int a2] s Q := by
  refine cal_of (me := cm33) (ls := [some (.ref 0), some (.int a1), some (.int a2)]) rfl (Nat.le_of_ble_eq_true rfl) rfl ?_
  refine wpc_sl (n := 5) (c' := 12) (pc' := 7) (ls' := [some (.ref 0), some (.int a1), some (.int a2)]) (st' := [.int a2, .int a1, .ref 0, .ref 11]) (s' := s) rfl ?_
  refine wpc_callI (m' := 21) (me' := cm21) (as := [.int a1, .int a2]) (r := [.ref 11]) rfl rfl rfl rfl rfl ⟨by decide, (by first | decide | exact Nat.le_of_ble_eq_true rfl), (by first | decide | exact Nat.le_of_ble_eq_true rfl), rfl⟩ (calI.mono h fun v454 s453 h455 => ?_)
  refine wpc_sl (n := 1) (c' := 12) (pc' := 11) (ls' := [some (.ref 0), some (.int a1), some (.int a2)]) (st' := [.int (3 : Int32), .int v454, .ref 11]) (s' := s453) rfl ?_
  refine wpc_staI (a := 10) (N := 48) (s' := (sI s453 11 (ix v454) (3 : Int32))) rfl rfl (by decide) h455.1 rfl ?_
  have h456 := h455.2
  refine wpc_sl (n := 2) (c' := 12) (pc' := 14) (ls' := [some (.ref 0), some (.int a1), some (.int a2)]) (st' := [.int a1, .ref 0]) (s' := (sI s453 11 (ix v454) (3 : Int32))) rfl ?_
  refine wpc_callV (m' := 37) (me' := cm37) (as := [.int a1]) (r := []) rfl rfl rfl rfl rfl ⟨by decide, (by first | decide | exact Nat.le_of_ble_eq_true rfl), (by first | decide | exact Nat.le_of_ble_eq_true rfl), rfl⟩ (calV.mono h456 fun s457 h459 => ?_)
  exact wpc_ret rfl rfl (fun q => absurd q (by decide)) rfl ⟨rfl, h459⟩
theorem c34_in (a1 : Int32) (a2 : Int32) (s : St) (Q : St → Prop) (h : calI PP 21 12 [.ref 0, .int a1, .int a2] s (fun v489 s488 => inb 48 v489 ∧ calV PP 37 12 [.ref 0, .int a1] (sI s488 11 (ix v489) (5 : Int32)) (fun s492 => Q s492))) : calV PP 34 12 [.ref 0, .int a1, .int a2] s Q := by
  refine cal_of (me := cm34) (ls := [some (.ref 0), some (.int a1), some (.int a2)]) rfl (Nat.le_of_ble_eq_true rfl) rfl ?_
  refine wpc_sl (n := 5) (c' := 12) (pc' := 7) (ls' := [some (.ref 0), some (.int a1), some (.int a2)]) (st' := [.int a2, .int a1, .ref 0, .ref 11]) (s' := s) rfl ?_
  refine wpc_callI (m' := 21) (me' := cm21) (as := [.int a1, .int a2]) (r := [.ref 11]) rfl rfl rfl rfl rfl ⟨by decide, (by first | decide | exact Nat.le_of_ble_eq_true rfl), (by first | decide | exact Nat.le_of_ble_eq_true rfl), rfl⟩ (calI.mono h fun v489 s488 h490 => ?_)
  refine wpc_sl (n := 1) (c' := 12) (pc' := 11) (ls' := [some (.ref 0), some (.int a1), some (.int a2)]) (st' := [.int (5 : Int32), .int v489, .ref 11]) (s' := s488) rfl ?_
  refine wpc_staI (a := 10) (N := 48) (s' := (sI s488 11 (ix v489) (5 : Int32))) rfl rfl (by decide) h490.1 rfl ?_
  have h491 := h490.2
  refine wpc_sl (n := 2) (c' := 12) (pc' := 14) (ls' := [some (.ref 0), some (.int a1), some (.int a2)]) (st' := [.int a1, .ref 0]) (s' := (sI s488 11 (ix v489) (5 : Int32))) rfl ?_
  refine wpc_callV (m' := 37) (me' := cm37) (as := [.int a1]) (r := []) rfl rfl rfl rfl rfl ⟨by decide, (by first | decide | exact Nat.le_of_ble_eq_true rfl), (by first | decide | exact Nat.le_of_ble_eq_true rfl), rfl⟩ (calV.mono h491 fun s492 h494 => ?_)
  exact wpc_ret rfl rfl (fun q => absurd q (by decide)) rfl ⟨rfl, h494⟩
theorem c7_in (a1 : Int32) (s : St) (Q : Int32 → St → Prop) (h : (((gI s 0 37) = (0 : Int32)) → Q (-1 : Int32) s) ∧ (¬ ((gI s 0 37) = (0 : Int32)) → calI PP 19 12 [.ref 0, .int a1] s (fun v393 s392 => ((v393 = (0 : Int32)) → Q (-1 : Int32) s392) ∧ (¬ (v393 = (0 : Int32)) → inb 8 a1 ∧ (((gI s392 5 (ix a1)) = (0 : Int32)) → Q (-1 : Int32) s392) ∧ (¬ ((gI s392 5 (ix a1)) = (0 : Int32)) → inb 8 a1 ∧ calI PP 25 12 [.ref 0, .int a1] (sI s392 5 (ix a1) (0 : Int32)) (fun v404 s403 => ((v404 < (0 : Int32)) → Q (0 : Int32) s403) ∧ (¬ (v404 < (0 : Int32)) → calI PP 26 12 [.ref 0, .int a1] s403 (fun v410 s409 => inb 8 a1 ∧ (((gI s409 6 (ix a1)) = v404) → inb 8 a1 ∧ (((gI s409 7 (ix a1)) = v410) → ((v410 = (1 : Int32)) → inb 8 a1 ∧ (((gI s409 8 (ix a1)) = (0 : Int32)) → calV PP 32 12 [.ref 0, .int a1, .int v404] s409 (fun s427 => inb 8 a1 ∧ Q (gI s427 2 (ix a1)) s427)) ∧ (¬ ((gI s409 8 (ix a1)) = (0 : Int32)) → calV PP 33 12 [.ref 0, .int a1, .int v404] s409 (fun s431 => inb 8 a1 ∧ Q (gI s431 2 (ix a1)) s431))) ∧ (¬ (v410 = (1 : Int32)) → calV PP 34 12 [.ref 0, .int a1, .int v404] s409 (fun s435 => inb 8 a1 ∧ Q (gI s435 2 (ix a1)) s435))) ∧ (¬ ((gI s409 7 (ix a1)) = v410) → Q (0 : Int32) s409)) ∧ (¬ ((gI s409 6 (ix a1)) = v404) → Q (0 : Int32) s409))))))))) : calI PP 7 12 [.ref 0, .int a1] s Q := by
  refine cal_of (me := cm7) (ls := [some (.ref 0), some (.int a1), none, none]) rfl (Nat.le_of_ble_eq_true rfl) rfl ?_
  refine wpc_sl (n := 2) (c' := 12) (pc' := 4) (ls' := [some (.ref 0), some (.int a1), none, none]) (st' := [.int (gI s 0 37)]) (s' := s) rfl ?_
  refine wpc_if (a := 9) (b := 7) rfl (by decide) rfl rfl (wpc_br (p := (gI s 0 37) = (0 : Int32)) ⟨fun hc389 => ?_, fun hc389 => ?_⟩)
  · have h390 := h.1 hc389
    refine wpc_sl (n := 1) (c' := 12) (pc' := 8) (ls' := [some (.ref 0), some (.int a1), none, none]) (st' := [.int (-1 : Int32)]) (s' := s) rfl ?_
    exact wpc_ret rfl rfl (fun q => absurd q (by decide)) rfl ⟨(-1 : Int32), rfl, h390⟩
  · have h391 := h.2 hc389
    refine wpc_sl (n := 2) (c' := 12) (pc' := 11) (ls' := [some (.ref 0), some (.int a1), none, none]) (st' := [.int a1, .ref 0]) (s' := s) rfl ?_
    refine wpc_callI (m' := 19) (me' := cm19) (as := [.int a1]) (r := []) rfl rfl rfl rfl rfl ⟨by decide, (by first | decide | exact Nat.le_of_ble_eq_true rfl), (by first | decide | exact Nat.le_of_ble_eq_true rfl), rfl⟩ (calI.mono h391 fun v393 s392 h394 => ?_)
    refine wpc_if (a := 19) (b := 17) rfl (by decide) rfl rfl (wpc_br (p := v393 = (0 : Int32)) ⟨fun hc395 => ?_, fun hc395 => ?_⟩)
    · have h396 := h394.1 hc395
      refine wpc_sl (n := 1) (c' := 12) (pc' := 18) (ls' := [some (.ref 0), some (.int a1), none, none]) (st' := [.int (-1 : Int32)]) (s' := s392) rfl ?_
      exact wpc_ret rfl rfl (fun q => absurd q (by decide)) rfl ⟨(-1 : Int32), rfl, h396⟩
    · have h397 := h394.2 hc395
      refine wpc_sl (n := 3) (c' := 12) (pc' := 24) (ls' := [some (.ref 0), some (.int a1), none, none]) (st' := [.int a1, .ref 5]) (s' := s392) rfl ?_
      refine wpc_ldaZ (a := 4) (N := 8) (v := (gI s392 5 (ix a1))) rfl rfl (by decide) h397.1 rfl ?_
      have h398 := h397.2
      refine wpc_if (a := 30) (b := 28) rfl (by decide) rfl rfl (wpc_br (p := (gI s392 5 (ix a1)) = (0 : Int32)) ⟨fun hc399 => ?_, fun hc399 => ?_⟩)
      · have h400 := h398.1 hc399
        refine wpc_sl (n := 1) (c' := 12) (pc' := 29) (ls' := [some (.ref 0), some (.int a1), none, none]) (st' := [.int (-1 : Int32)]) (s' := s392) rfl ?_
        exact wpc_ret rfl rfl (fun q => absurd q (by decide)) rfl ⟨(-1 : Int32), rfl, h400⟩
      · have h401 := h398.2 hc399
        refine wpc_sl (n := 4) (c' := 12) (pc' := 36) (ls' := [some (.ref 0), some (.int a1), none, none]) (st' := [.int (0 : Int32), .int a1, .ref 5]) (s' := s392) rfl ?_
        refine wpc_staZ (a := 4) (N := 8) (s' := (sI s392 5 (ix a1) (0 : Int32))) rfl rfl (by decide) h401.1 rfl ?_
        have h402 := h401.2
        refine wpc_sl (n := 2) (c' := 12) (pc' := 39) (ls' := [some (.ref 0), some (.int a1), none, none]) (st' := [.int a1, .ref 0]) (s' := (sI s392 5 (ix a1) (0 : Int32))) rfl ?_
        refine wpc_callI (m' := 25) (me' := cm25) (as := [.int a1]) (r := []) rfl rfl rfl rfl rfl ⟨by decide, (by first | decide | exact Nat.le_of_ble_eq_true rfl), (by first | decide | exact Nat.le_of_ble_eq_true rfl), rfl⟩ (calI.mono h402 fun v404 s403 h405 => ?_)
        refine wpc_sl (n := 2) (c' := 12) (pc' := 44) (ls' := [some (.ref 0), some (.int a1), some (.int v404), none]) (st' := [.int v404]) (s' := s403) rfl ?_
        refine wpc_if (a := 49) (b := 47) rfl (by decide) rfl rfl (wpc_br (p := v404 < (0 : Int32)) ⟨fun hc406 => ?_, fun hc406 => ?_⟩)
        · have h407 := h405.1 hc406
          refine wpc_sl (n := 1) (c' := 12) (pc' := 48) (ls' := [some (.ref 0), some (.int a1), some (.int v404), none]) (st' := [.int (0 : Int32)]) (s' := s403) rfl ?_
          exact wpc_ret rfl rfl (fun q => absurd q (by decide)) rfl ⟨(0 : Int32), rfl, h407⟩
        · have h408 := h405.2 hc406
          refine wpc_sl (n := 2) (c' := 12) (pc' := 51) (ls' := [some (.ref 0), some (.int a1), some (.int v404), none]) (st' := [.int a1, .ref 0]) (s' := s403) rfl ?_
          refine wpc_callI (m' := 26) (me' := cm26) (as := [.int a1]) (r := []) rfl rfl rfl rfl rfl ⟨by decide, (by first | decide | exact Nat.le_of_ble_eq_true rfl), (by first | decide | exact Nat.le_of_ble_eq_true rfl), rfl⟩ (calI.mono h408 fun v410 s409 h411 => ?_)
          refine wpc_sl (n := 4) (c' := 12) (pc' := 60) (ls' := [some (.ref 0), some (.int a1), some (.int v404), some (.int v410)]) (st' := [.int a1, .ref 6]) (s' := s409) rfl ?_
          refine wpc_ldaI (a := 5) (N := 8) (v := (gI s409 6 (ix a1))) rfl rfl (by decide) h411.1 rfl ?_
          have h412 := h411.2
          refine wpc_sl (n := 1) (c' := 12) (pc' := 62) (ls' := [some (.ref 0), some (.int a1), some (.int v404), some (.int v410)]) (st' := [.int v404, .int (gI s409 6 (ix a1))]) (s' := s409) rfl ?_
          refine wpc_icmp (a := 75) (b := 65) rfl (by decide) rfl rfl (wpc_br (p := (gI s409 6 (ix a1)) = v404) ⟨fun hc413 => ?_, fun hc413 => ?_⟩)
          · have h414 := h412.1 hc413
            refine wpc_sl (n := 3) (c' := 12) (pc' := 70) (ls' := [some (.ref 0), some (.int a1), some (.int v404), some (.int v410)]) (st' := [.int a1, .ref 7]) (s' := s409) rfl ?_
            refine wpc_ldaI (a := 6) (N := 8) (v := (gI s409 7 (ix a1))) rfl rfl (by decide) h414.1 rfl ?_
            have h416 := h414.2
            refine wpc_sl (n := 1) (c' := 12) (pc' := 72) (ls' := [some (.ref 0), some (.int a1), some (.int v404), some (.int v410)]) (st' := [.int v410, .int (gI s409 7 (ix a1))]) (s' := s409) rfl ?_
            refine wpc_icmp (a := 77) (b := 75) rfl (by decide) rfl rfl (wpc_br (p := (gI s409 7 (ix a1)) = v410) ⟨fun hc417 => ?_, fun hc417 => ?_⟩)
            · have h418 := h416.1 hc417
              refine wpc_sl (n := 2) (c' := 12) (pc' := 79) (ls' := [some (.ref 0), some (.int a1), some (.int v404), some (.int v410)]) (st' := [.int (1 : Int32), .int v410]) (s' := s409) rfl ?_
              refine wpc_icmp (a := 109) (b := 82) rfl (by decide) rfl rfl (wpc_br (p := v410 = (1 : Int32)) ⟨fun hc420 => ?_, fun hc420 => ?_⟩)
              · have h421 := h418.1 hc420
                refine wpc_sl (n := 3) (c' := 12) (pc' := 87) (ls' := [some (.ref 0), some (.int a1), some (.int v404), some (.int v410)]) (st' := [.int a1, .ref 8]) (s' := s409) rfl ?_
                refine wpc_ldaI (a := 7) (N := 8) (v := (gI s409 8 (ix a1))) rfl rfl (by decide) h421.1 rfl ?_
                have h423 := h421.2
                refine wpc_if (a := 100) (b := 91) rfl (by decide) rfl rfl (wpc_br (p := (gI s409 8 (ix a1)) = (0 : Int32)) ⟨fun hc424 => ?_, fun hc424 => ?_⟩)
                · have h425 := h423.1 hc424
                  refine wpc_sl (n := 3) (c' := 12) (pc' := 94) (ls' := [some (.ref 0), some (.int a1), some (.int v404), some (.int v410)]) (st' := [.int v404, .int a1, .ref 0]) (s' := s409) rfl ?_
                  refine wpc_callV (m' := 32) (me' := cm32) (as := [.int a1, .int v404]) (r := []) rfl rfl rfl rfl rfl ⟨by decide, (by first | decide | exact Nat.le_of_ble_eq_true rfl), (by first | decide | exact Nat.le_of_ble_eq_true rfl), rfl⟩ (calV.mono h425 fun s427 h429 => ?_)
                  refine wpc_sl (n := 4) (c' := 12) (pc' := 120) (ls' := [some (.ref 0), some (.int a1), some (.int v404), some (.int v410)]) (st' := [.int a1, .ref 2]) (s' := s427) rfl ?_
                  refine wpc_ldaI (a := 1) (N := 8) (v := (gI s427 2 (ix a1))) rfl rfl (by decide) h429.1 rfl ?_
                  have h430 := h429.2
                  exact wpc_ret rfl rfl (fun q => absurd q (by decide)) rfl ⟨(gI s427 2 (ix a1)), rfl, h430⟩
                · have h426 := h423.2 hc424
                  refine wpc_sl (n := 3) (c' := 12) (pc' := 103) (ls' := [some (.ref 0), some (.int a1), some (.int v404), some (.int v410)]) (st' := [.int v404, .int a1, .ref 0]) (s' := s409) rfl ?_
                  refine wpc_callV (m' := 33) (me' := cm33) (as := [.int a1, .int v404]) (r := []) rfl rfl rfl rfl rfl ⟨by decide, (by first | decide | exact Nat.le_of_ble_eq_true rfl), (by first | decide | exact Nat.le_of_ble_eq_true rfl), rfl⟩ (calV.mono h426 fun s431 h433 => ?_)
                  refine wpc_sl (n := 4) (c' := 12) (pc' := 120) (ls' := [some (.ref 0), some (.int a1), some (.int v404), some (.int v410)]) (st' := [.int a1, .ref 2]) (s' := s431) rfl ?_
                  refine wpc_ldaI (a := 1) (N := 8) (v := (gI s431 2 (ix a1))) rfl rfl (by decide) h433.1 rfl ?_
                  have h434 := h433.2
                  exact wpc_ret rfl rfl (fun q => absurd q (by decide)) rfl ⟨(gI s431 2 (ix a1)), rfl, h434⟩
              · have h422 := h418.2 hc420
                refine wpc_sl (n := 3) (c' := 12) (pc' := 112) (ls' := [some (.ref 0), some (.int a1), some (.int v404), some (.int v410)]) (st' := [.int v404, .int a1, .ref 0]) (s' := s409) rfl ?_
                refine wpc_callV (m' := 34) (me' := cm34) (as := [.int a1, .int v404]) (r := []) rfl rfl rfl rfl rfl ⟨by decide, (by first | decide | exact Nat.le_of_ble_eq_true rfl), (by first | decide | exact Nat.le_of_ble_eq_true rfl), rfl⟩ (calV.mono h422 fun s435 h437 => ?_)
                refine wpc_sl (n := 3) (c' := 12) (pc' := 120) (ls' := [some (.ref 0), some (.int a1), some (.int v404), some (.int v410)]) (st' := [.int a1, .ref 2]) (s' := s435) rfl ?_
                refine wpc_ldaI (a := 1) (N := 8) (v := (gI s435 2 (ix a1))) rfl rfl (by decide) h437.1 rfl ?_
                have h438 := h437.2
                exact wpc_ret rfl rfl (fun q => absurd q (by decide)) rfl ⟨(gI s435 2 (ix a1)), rfl, h438⟩
            · have h419 := h416.2 hc417
              refine wpc_sl (n := 1) (c' := 12) (pc' := 76) (ls' := [some (.ref 0), some (.int a1), some (.int v404), some (.int v410)]) (st' := [.int (0 : Int32)]) (s' := s409) rfl ?_
              exact wpc_ret rfl rfl (fun q => absurd q (by decide)) rfl ⟨(0 : Int32), rfl, h419⟩
          · have h415 := h412.2 hc413
            refine wpc_sl (n := 1) (c' := 12) (pc' := 76) (ls' := [some (.ref 0), some (.int a1), some (.int v404), some (.int v410)]) (st' := [.int (0 : Int32)]) (s' := s409) rfl ?_
            exact wpc_ret rfl rfl (fun q => absurd q (by decide)) rfl ⟨(0 : Int32), rfl, h415⟩
theorem c20_in (a1 : Int32) (a2 : Int32) (s : St) (Q : Int32 → St → Prop) (h : ((a2 < (0 : Int32)) → Q (0 : Int32) s) ∧ (¬ (a2 < (0 : Int32)) → inb 8 a1 ∧ ((a2 < (gI s 3 (ix a1))) → ((a2 < (6 : Int32)) → Q (1 : Int32) s) ∧ (¬ (a2 < (6 : Int32)) → Q (0 : Int32) s)) ∧ (¬ (a2 < (gI s 3 (ix a1))) → Q (0 : Int32) s))) : calI PP 20 12 [.ref 0, .int a1, .int a2] s Q := by
  refine cal_of (me := cm20) (ls := [some (.ref 0), some (.int a1), some (.int a2)]) rfl (Nat.le_of_ble_eq_true rfl) rfl ?_
  refine wpc_sl (n := 1) (c' := 12) (pc' := 1) (ls' := [some (.ref 0), some (.int a1), some (.int a2)]) (st' := [.int a2]) (s' := s) rfl ?_
  refine wpc_if (a := 24) (b := 4) rfl (by decide) rfl rfl (wpc_br (p := a2 < (0 : Int32)) ⟨fun hc511 => ?_, fun hc511 => ?_⟩)
  · have h512 := h.1 hc511
    refine wpc_sl (n := 1) (c' := 12) (pc' := 25) (ls' := [some (.ref 0), some (.int a1), some (.int a2)]) (st' := [.int (0 : Int32)]) (s' := s) rfl ?_
    exact wpc_ret rfl rfl (fun q => absurd q (by decide)) rfl ⟨(0 : Int32), rfl, h512⟩
  · have h513 := h.2 hc511
    refine wpc_sl (n := 4) (c' := 12) (pc' := 10) (ls' := [some (.ref 0), some (.int a1), some (.int a2)]) (st' := [.int a1, .ref 3, .int a2]) (s' := s) rfl ?_
    refine wpc_ldaI (a := 2) (N := 8) (v := (gI s 3 (ix a1))) rfl rfl (by decide) h513.1 rfl ?_
    have h514 := h513.2
    refine wpc_icmp (a := 24) (b := 14) rfl (by decide) rfl rfl (wpc_br (p := a2 < (gI s 3 (ix a1))) ⟨fun hc515 => ?_, fun hc515 => ?_⟩)
    · have h516 := h514.1 hc515
      refine wpc_sl (n := 2) (c' := 12) (pc' := 17) (ls' := [some (.ref 0), some (.int a1), some (.int a2)]) (st' := [.int (6 : Int32), .int a2]) (s' := s) rfl ?_
      refine wpc_icmp (a := 24) (b := 20) rfl (by decide) rfl rfl (wpc_br (p := a2 < (6 : Int32)) ⟨fun hc518 => ?_, fun hc518 => ?_⟩)
      · have h519 := h516.1 hc518
        refine wpc_sl (n := 2) (c' := 12) (pc' := 25) (ls' := [some (.ref 0), some (.int a1), some (.int a2)]) (st' := [.int (1 : Int32)]) (s' := s) rfl ?_
        exact wpc_ret rfl rfl (fun q => absurd q (by decide)) rfl ⟨(1 : Int32), rfl, h519⟩
      · have h520 := h516.2 hc518
        refine wpc_sl (n := 1) (c' := 12) (pc' := 25) (ls' := [some (.ref 0), some (.int a1), some (.int a2)]) (st' := [.int (0 : Int32)]) (s' := s) rfl ?_
        exact wpc_ret rfl rfl (fun q => absurd q (by decide)) rfl ⟨(0 : Int32), rfl, h520⟩
    · have h517 := h514.2 hc515
      refine wpc_sl (n := 1) (c' := 12) (pc' := 25) (ls' := [some (.ref 0), some (.int a1), some (.int a2)]) (st' := [.int (0 : Int32)]) (s' := s) rfl ?_
      exact wpc_ret rfl rfl (fun q => absurd q (by decide)) rfl ⟨(0 : Int32), rfl, h517⟩
theorem c13_in (a1 : Int32) (a2 : Int32) (s : St) (Q : Int32 → St → Prop) (h : calI PP 19 12 [.ref 0, .int a1] s (fun v496 s495 => ((v496 = (0 : Int32)) → Q (-1 : Int32) s495) ∧ (¬ (v496 = (0 : Int32)) → calI PP 20 12 [.ref 0, .int a1, .int a2] s495 (fun v502 s501 => ((v502 = (0 : Int32)) → Q (-1 : Int32) s501) ∧ (¬ (v502 = (0 : Int32)) → calI PP 21 12 [.ref 0, .int a1, .int a2] s501 (fun v508 s507 => inb 48 v508 ∧ Q (gI s507 11 (ix v508)) s507)))))) : calI PP 13 12 [.ref 0, .int a1, .int a2] s Q := by
  refine cal_of (me := cm13) (ls := [some (.ref 0), some (.int a1), some (.int a2)]) rfl (Nat.le_of_ble_eq_true rfl) rfl ?_
  refine wpc_sl (n := 2) (c' := 12) (pc' := 2) (ls' := [some (.ref 0), some (.int a1), some (.int a2)]) (st' := [.int a1, .ref 0]) (s' := s) rfl ?_
  refine wpc_callI (m' := 19) (me' := cm19) (as := [.int a1]) (r := []) rfl rfl rfl rfl rfl ⟨by decide, (by first | decide | exact Nat.le_of_ble_eq_true rfl), (by first | decide | exact Nat.le_of_ble_eq_true rfl), rfl⟩ (calI.mono h fun v496 s495 h497 => ?_)
  refine wpc_if (a := 10) (b := 8) rfl (by decide) rfl rfl (wpc_br (p := v496 = (0 : Int32)) ⟨fun hc498 => ?_, fun hc498 => ?_⟩)
  · have h499 := h497.1 hc498
    refine wpc_sl (n := 1) (c' := 12) (pc' := 9) (ls' := [some (.ref 0), some (.int a1), some (.int a2)]) (st' := [.int (-1 : Int32)]) (s' := s495) rfl ?_
    exact wpc_ret rfl rfl (fun q => absurd q (by decide)) rfl ⟨(-1 : Int32), rfl, h499⟩
  · have h500 := h497.2 hc498
    refine wpc_sl (n := 3) (c' := 12) (pc' := 13) (ls' := [some (.ref 0), some (.int a1), some (.int a2)]) (st' := [.int a2, .int a1, .ref 0]) (s' := s495) rfl ?_
    refine wpc_callI (m' := 20) (me' := cm20) (as := [.int a1, .int a2]) (r := []) rfl rfl rfl rfl rfl ⟨by decide, (by first | decide | exact Nat.le_of_ble_eq_true rfl), (by first | decide | exact Nat.le_of_ble_eq_true rfl), rfl⟩ (calI.mono h500 fun v502 s501 h503 => ?_)
    refine wpc_if (a := 21) (b := 19) rfl (by decide) rfl rfl (wpc_br (p := v502 = (0 : Int32)) ⟨fun hc504 => ?_, fun hc504 => ?_⟩)
    · have h505 := h503.1 hc504
      refine wpc_sl (n := 1) (c' := 12) (pc' := 20) (ls' := [some (.ref 0), some (.int a1), some (.int a2)]) (st' := [.int (-1 : Int32)]) (s' := s501) rfl ?_
      exact wpc_ret rfl rfl (fun q => absurd q (by decide)) rfl ⟨(-1 : Int32), rfl, h505⟩
    · have h506 := h503.2 hc504
      refine wpc_sl (n := 5) (c' := 12) (pc' := 28) (ls' := [some (.ref 0), some (.int a1), some (.int a2)]) (st' := [.int a2, .int a1, .ref 0, .ref 11]) (s' := s501) rfl ?_
      refine wpc_callI (m' := 21) (me' := cm21) (as := [.int a1, .int a2]) (r := [.ref 11]) rfl rfl rfl rfl rfl ⟨by decide, (by first | decide | exact Nat.le_of_ble_eq_true rfl), (by first | decide | exact Nat.le_of_ble_eq_true rfl), rfl⟩ (calI.mono h506 fun v508 s507 h509 => ?_)
      refine wpc_ldaI (a := 10) (N := 48) (v := (gI s507 11 (ix v508))) rfl rfl (by decide) h509.1 rfl ?_
      have h510 := h509.2
      exact wpc_ret rfl rfl (fun q => absurd q (by decide)) rfl ⟨(gI s507 11 (ix v508)), rfl, h510⟩
theorem c14_in (a1 : Int32) (a2 : Int32) (s : St) (Q : Int32 → St → Prop) (h : calI PP 19 12 [.ref 0, .int a1] s (fun v522 s521 => ((v522 = (0 : Int32)) → Q (-1 : Int32) s521) ∧ (¬ (v522 = (0 : Int32)) → calI PP 20 12 [.ref 0, .int a1, .int a2] s521 (fun v528 s527 => ((v528 = (0 : Int32)) → Q (-1 : Int32) s527) ∧ (¬ (v528 = (0 : Int32)) → calI PP 21 12 [.ref 0, .int a1, .int a2] s527 (fun v534 s533 => inb 48 v534 ∧ Q (gI s533 12 (ix v534)) s533)))))) : calI PP 14 12 [.ref 0, .int a1, .int a2] s Q := by
  refine cal_of (me := cm14) (ls := [some (.ref 0), some (.int a1), some (.int a2)]) rfl (Nat.le_of_ble_eq_true rfl) rfl ?_
  refine wpc_sl (n := 2) (c' := 12) (pc' := 2) (ls' := [some (.ref 0), some (.int a1), some (.int a2)]) (st' := [.int a1, .ref 0]) (s' := s) rfl ?_
  refine wpc_callI (m' := 19) (me' := cm19) (as := [.int a1]) (r := []) rfl rfl rfl rfl rfl ⟨by decide, (by first | decide | exact Nat.le_of_ble_eq_true rfl), (by first | decide | exact Nat.le_of_ble_eq_true rfl), rfl⟩ (calI.mono h fun v522 s521 h523 => ?_)
  refine wpc_if (a := 10) (b := 8) rfl (by decide) rfl rfl (wpc_br (p := v522 = (0 : Int32)) ⟨fun hc524 => ?_, fun hc524 => ?_⟩)
  · have h525 := h523.1 hc524
    refine wpc_sl (n := 1) (c' := 12) (pc' := 9) (ls' := [some (.ref 0), some (.int a1), some (.int a2)]) (st' := [.int (-1 : Int32)]) (s' := s521) rfl ?_
    exact wpc_ret rfl rfl (fun q => absurd q (by decide)) rfl ⟨(-1 : Int32), rfl, h525⟩
  · have h526 := h523.2 hc524
    refine wpc_sl (n := 3) (c' := 12) (pc' := 13) (ls' := [some (.ref 0), some (.int a1), some (.int a2)]) (st' := [.int a2, .int a1, .ref 0]) (s' := s521) rfl ?_
    refine wpc_callI (m' := 20) (me' := cm20) (as := [.int a1, .int a2]) (r := []) rfl rfl rfl rfl rfl ⟨by decide, (by first | decide | exact Nat.le_of_ble_eq_true rfl), (by first | decide | exact Nat.le_of_ble_eq_true rfl), rfl⟩ (calI.mono h526 fun v528 s527 h529 => ?_)
    refine wpc_if (a := 21) (b := 19) rfl (by decide) rfl rfl (wpc_br (p := v528 = (0 : Int32)) ⟨fun hc530 => ?_, fun hc530 => ?_⟩)
    · have h531 := h529.1 hc530
      refine wpc_sl (n := 1) (c' := 12) (pc' := 20) (ls' := [some (.ref 0), some (.int a1), some (.int a2)]) (st' := [.int (-1 : Int32)]) (s' := s527) rfl ?_
      exact wpc_ret rfl rfl (fun q => absurd q (by decide)) rfl ⟨(-1 : Int32), rfl, h531⟩
    · have h532 := h529.2 hc530
      refine wpc_sl (n := 5) (c' := 12) (pc' := 28) (ls' := [some (.ref 0), some (.int a1), some (.int a2)]) (st' := [.int a2, .int a1, .ref 0, .ref 12]) (s' := s527) rfl ?_
      refine wpc_callI (m' := 21) (me' := cm21) (as := [.int a1, .int a2]) (r := [.ref 12]) rfl rfl rfl rfl rfl ⟨by decide, (by first | decide | exact Nat.le_of_ble_eq_true rfl), (by first | decide | exact Nat.le_of_ble_eq_true rfl), rfl⟩ (calI.mono h532 fun v534 s533 h535 => ?_)
      refine wpc_ldaI (a := 11) (N := 48) (v := (gI s533 12 (ix v534))) rfl rfl (by decide) h535.1 rfl ?_
      have h536 := h535.2
      exact wpc_ret rfl rfl (fun q => absurd q (by decide)) rfl ⟨(gI s533 12 (ix v534)), rfl, h536⟩
theorem c11_in (a1 : Int32) (s : St) (Q : Int32 → St → Prop) (h : calI PP 19 12 [.ref 0, .int a1] s (fun v538 s537 => ((v538 = (0 : Int32)) → Q (-1 : Int32) s537) ∧ (¬ (v538 = (0 : Int32)) → inb 8 a1 ∧ Q (gI s537 2 (ix a1)) s537))) : calI PP 11 12 [.ref 0, .int a1] s Q := by
  refine cal_of (me := cm11) (ls := [some (.ref 0), some (.int a1)]) rfl (Nat.le_of_ble_eq_true rfl) rfl ?_
  refine wpc_sl (n := 2) (c' := 12) (pc' := 2) (ls' := [some (.ref 0), some (.int a1)]) (st' := [.int a1, .ref 0]) (s' := s) rfl ?_
  refine wpc_callI (m' := 19) (me' := cm19) (as := [.int a1]) (r := []) rfl rfl rfl rfl rfl ⟨by decide, (by first | decide | exact Nat.le_of_ble_eq_true rfl), (by first | decide | exact Nat.le_of_ble_eq_true rfl), rfl⟩ (calI.mono h fun v538 s537 h539 => ?_)
  refine wpc_if (a := 10) (b := 8) rfl (by decide) rfl rfl (wpc_br (p := v538 = (0 : Int32)) ⟨fun hc540 => ?_, fun hc540 => ?_⟩)
  · have h541 := h539.1 hc540
    refine wpc_sl (n := 1) (c' := 12) (pc' := 9) (ls' := [some (.ref 0), some (.int a1)]) (st' := [.int (-1 : Int32)]) (s' := s537) rfl ?_
    exact wpc_ret rfl rfl (fun q => absurd q (by decide)) rfl ⟨(-1 : Int32), rfl, h541⟩
  · have h542 := h539.2 hc540
    refine wpc_sl (n := 3) (c' := 12) (pc' := 15) (ls' := [some (.ref 0), some (.int a1)]) (st' := [.int a1, .ref 2]) (s' := s537) rfl ?_
    refine wpc_ldaI (a := 1) (N := 8) (v := (gI s537 2 (ix a1))) rfl rfl (by decide) h542.1 rfl ?_
    have h543 := h542.2
    exact wpc_ret rfl rfl (fun q => absurd q (by decide)) rfl ⟨(gI s537 2 (ix a1)), rfl, h543⟩
theorem c15_in (a1 : Int32) (s : St) (Q : Int32 → St → Prop) (h : ((a1 < (0 : Int32)) → Q (-1 : Int32) s) ∧ (¬ (a1 < (0 : Int32)) → (((3 : Int32) < a1) → Q (-1 : Int32) s) ∧ (¬ ((3 : Int32) < a1) → inb 4 a1 ∧ Q (gI s 1 (ix a1)) s))) : calI PP 15 12 [.ref 0, .int a1] s Q := by
  refine cal_of (me := cm15) (ls := [some (.ref 0), some (.int a1)]) rfl (Nat.le_of_ble_eq_true rfl) rfl ?_
  refine wpc_sl (n := 1) (c' := 12) (pc' := 1) (ls' := [some (.ref 0), some (.int a1)]) (st' := [.int a1]) (s' := s) rfl ?_
  refine wpc_if (a := 9) (b := 4) rfl (by decide) rfl rfl (wpc_br (p := a1 < (0 : Int32)) ⟨fun hc544 => ?_, fun hc544 => ?_⟩)
  · have h545 := h.1 hc544
    refine wpc_sl (n := 1) (c' := 12) (pc' := 10) (ls' := [some (.ref 0), some (.int a1)]) (st' := [.int (-1 : Int32)]) (s' := s) rfl ?_
    exact wpc_ret rfl rfl (fun q => absurd q (by decide)) rfl ⟨(-1 : Int32), rfl, h545⟩
  · have h546 := h.2 hc544
    refine wpc_sl (n := 2) (c' := 12) (pc' := 6) (ls' := [some (.ref 0), some (.int a1)]) (st' := [.int (3 : Int32), .int a1]) (s' := s) rfl ?_
    refine wpc_icmp (a := 11) (b := 9) rfl (by decide) rfl rfl (wpc_br (p := (3 : Int32) < a1) ⟨fun hc547 => ?_, fun hc547 => ?_⟩)
    · have h548 := h546.1 hc547
      refine wpc_sl (n := 1) (c' := 12) (pc' := 10) (ls' := [some (.ref 0), some (.int a1)]) (st' := [.int (-1 : Int32)]) (s' := s) rfl ?_
      exact wpc_ret rfl rfl (fun q => absurd q (by decide)) rfl ⟨(-1 : Int32), rfl, h548⟩
    · have h549 := h546.2 hc547
      refine wpc_sl (n := 3) (c' := 12) (pc' := 16) (ls' := [some (.ref 0), some (.int a1)]) (st' := [.int a1, .ref 1]) (s' := s) rfl ?_
      refine wpc_ldaI (a := 0) (N := 4) (v := (gI s 1 (ix a1))) rfl rfl (by decide) h549.1 rfl ?_
      have h550 := h549.2
      exact wpc_ret rfl rfl (fun q => absurd q (by decide)) rfl ⟨(gI s 1 (ix a1)), rfl, h550⟩
theorem l0_in (a0 : Int32) (a1 : Int32) (a2 : Int32) (a3 : Int32) (a4 : Int32)  (Q : Int32 → Wd → Prop) (h : ∀ m1, m1 = (if a0 < (0 : Int32) then (0 : Int32) else (if (500 : Int32) < a0 then (500 : Int32) else a0)) → (calV PP 0 0 [.ref 0, .int a0, .int (0 : Int32), .int (8 : Int32)] s0 (fun s4 => calI PP 2 12 [.ref 0] s4 (fun v7 s6 => calI PP 3 12 [.ref 0, .int (0 : Int32), .int (a1 &&& (3 : Int32)), .int ((((a2 % (100 : Int32)) + (100 : Int32)) % (100 : Int32)) + (1 : Int32))] s6 (fun v10 s9 => calI PP 3 12 [.ref 0, .int (0 : Int32), .int (a3 &&& (3 : Int32)), .int ((((a4 % (100 : Int32)) + (100 : Int32)) % (100 : Int32)) + (1 : Int32))] s9 (fun v13 s12 => calI PP 4 12 [.ref 0, .int (0 : Int32)] s12 (fun v16 s15 => calI PP 5 12 [.ref 0, .int (0 : Int32)] s15 (fun v19 s18 => wplI PP QQ none 0 lm0 123 [none, none, none, none, none, some (.int m1), some (.int (a1 &&& (3 : Int32))), some (.int (a3 &&& (3 : Int32))), some (.int ((((a2 % (100 : Int32)) + (100 : Int32)) % (100 : Int32)) + (1 : Int32))), some (.int ((((a4 % (100 : Int32)) + (100 : Int32)) % (100 : Int32)) + (1 : Int32))), some (.ref 1), some (.int v7), some (.int v10), some (.int v13), some (.int v16), some (.int v19), none, none, none, none, none, none, none, none, none, none, none, none, none, none, none, none, none, none, none, none] [] (W1 s18) Q)))))))) : lalI PP QQ none 0 [.int a0, .int a1, .int a2, .int a3, .int a4] W0 Q := by
  refine lal_of (me := lm0) (ls := [some (.int a0), some (.int a1), some (.int a2), some (.int a3), some (.int a4), none, none, none, none, none, none, none, none, none, none, none, none, none, none, none, none, none, none, none, none, none, none, none, none, none, none, none, none, none, none, none]) rfl (Nat.le_of_ble_eq_true rfl) rfl ?_
  refine wpl_sl (n := 1) (pc' := 1) (ls' := [some (.int a0), some (.int a1), some (.int a2), some (.int a3), some (.int a4), none, none, none, none, none, none, none, none, none, none, none, none, none, none, none, none, none, none, none, none, none, none, none, none, none, none, none, none, none, none, none]) (st' := [.int a0]) rfl ?_
  have hm2 : ∀ m1, m1 = (if a0 < (0 : Int32) then (0 : Int32) else (if (500 : Int32) < a0 then (500 : Int32) else a0)) → wplI PP QQ none 0 lm0 22 [some (.int a0), some (.int a1), some (.int a2), some (.int a3), some (.int a4), none, none, none, none, none, none, none, none, none, none, none, none, none, none, none, none, none, none, none, none, none, none, none, none, none, none, none, none, none, none, none] [.int m1] W0 Q := by
    intro m1 em1
    have h3 := h m1 em1
    refine wpl_sl (n := 5) (pc' := 29) (ls' := [some (.int a0), some (.int a1), some (.int a2), some (.int a3), some (.int a4), some (.int m1), some (.int (a1 &&& (3 : Int32))), none, none, none, none, none, none, none, none, none, none, none, none, none, none, none, none, none, none, none, none, none, none, none, none, none, none, none, none, none]) (st' := []) rfl ?_
    refine wpl_sl (n := 5) (pc' := 35) (ls' := [some (.int a0), some (.int a1), some (.int a2), some (.int a3), some (.int a4), some (.int m1), some (.int (a1 &&& (3 : Int32))), some (.int (a3 &&& (3 : Int32))), none, none, none, none, none, none, none, none, none, none, none, none, none, none, none, none, none, none, none, none, none, none, none, none, none, none, none, none]) (st' := [.int a2]) rfl ?_
    refine wpl_sl (n := 5) (pc' := 43) (ls' := [some (.int a0), some (.int a1), some (.int a2), some (.int a3), some (.int a4), some (.int m1), some (.int (a1 &&& (3 : Int32))), some (.int (a3 &&& (3 : Int32))), none, none, none, none, none, none, none, none, none, none, none, none, none, none, none, none, none, none, none, none, none, none, none, none, none, none, none, none]) (st' := [.int (100 : Int32), .int ((a2 % (100 : Int32)) + (100 : Int32))]) rfl ?_
    refine wpl_sl (n := 5) (pc' := 50) (ls' := [some (.int a0), some (.int a1), some (.int a2), some (.int a3), some (.int a4), some (.int m1), some (.int (a1 &&& (3 : Int32))), some (.int (a3 &&& (3 : Int32))), some (.int ((((a2 % (100 : Int32)) + (100 : Int32)) % (100 : Int32)) + (1 : Int32))), none, none, none, none, none, none, none, none, none, none, none, none, none, none, none, none, none, none, none, none, none, none, none, none, none, none, none]) (st' := [.int a4]) rfl ?_
    refine wpl_sl (n := 5) (pc' := 58) (ls' := [some (.int a0), some (.int a1), some (.int a2), some (.int a3), some (.int a4), some (.int m1), some (.int (a1 &&& (3 : Int32))), some (.int (a3 &&& (3 : Int32))), some (.int ((((a2 % (100 : Int32)) + (100 : Int32)) % (100 : Int32)) + (1 : Int32))), none, none, none, none, none, none, none, none, none, none, none, none, none, none, none, none, none, none, none, none, none, none, none, none, none, none, none]) (st' := [.int (100 : Int32), .int ((a4 % (100 : Int32)) + (100 : Int32))]) rfl ?_
    refine wpl_sl (n := 4) (pc' := 63) (ls' := [some (.int a0), some (.int a1), some (.int a2), some (.int a3), some (.int a4), some (.int m1), some (.int (a1 &&& (3 : Int32))), some (.int (a3 &&& (3 : Int32))), some (.int ((((a2 % (100 : Int32)) + (100 : Int32)) % (100 : Int32)) + (1 : Int32))), some (.int ((((a4 % (100 : Int32)) + (100 : Int32)) % (100 : Int32)) + (1 : Int32))), none, none, none, none, none, none, none, none, none, none, none, none, none, none, none, none, none, none, none, none, none, none, none, none, none, none]) (st' := []) rfl ?_
    refine wpl_new0 rfl rfl (by decide) (by decide) ?_
    refine wpl_sl (n := 4) (pc' := 71) (ls' := [some (.int a0), some (.int a1), some (.int a2), some (.int a3), some (.int a4), some (.int m1), some (.int (a1 &&& (3 : Int32))), some (.int (a3 &&& (3 : Int32))), some (.int ((((a2 % (100 : Int32)) + (100 : Int32)) % (100 : Int32)) + (1 : Int32))), some (.int ((((a4 % (100 : Int32)) + (100 : Int32)) % (100 : Int32)) + (1 : Int32))), none, none, none, none, none, none, none, none, none, none, none, none, none, none, none, none, none, none, none, none, none, none, none, none, none, none]) (st' := [.int (8 : Int32), .int (0 : Int32), .int a0, .ref 1, .ref 1]) rfl ?_
    refine wpl_ctor0 (me' := cm0) (as := [.int a0, .int (0 : Int32), .int (8 : Int32)]) (r := [.ref 1]) rfl rfl rfl rfl rfl ⟨by decide, by decide, rfl, by decide, by decide⟩ (calV.mono h3 fun s4 h5 => ?_)
    refine wpl_sl (n := 2) (pc' := 78) (ls' := [some (.int a0), some (.int a1), some (.int a2), some (.int a3), some (.int a4), some (.int m1), some (.int (a1 &&& (3 : Int32))), some (.int (a3 &&& (3 : Int32))), some (.int ((((a2 % (100 : Int32)) + (100 : Int32)) % (100 : Int32)) + (1 : Int32))), some (.int ((((a4 % (100 : Int32)) + (100 : Int32)) % (100 : Int32)) + (1 : Int32))), some (.ref 1), none, none, none, none, none, none, none, none, none, none, none, none, none, none, none, none, none, none, none, none, none, none, none, none, none]) (st' := [.ref 1]) rfl ?_
    refine wpl_v1 (m' := 2) (me' := cm2) (as := []) (r := []) rfl rfl rfl rfl rfl ⟨by decide, (by first | decide | exact Nat.le_of_ble_eq_true rfl), (by first | decide | exact Nat.le_of_ble_eq_true rfl), rfl⟩ (cal_I (calI.mono h5 fun v7 s6 h8 => ?_))
    refine wpl_sl (n := 5) (pc' := 90) (ls' := [some (.int a0), some (.int a1), some (.int a2), some (.int a3), some (.int a4), some (.int m1), some (.int (a1 &&& (3 : Int32))), some (.int (a3 &&& (3 : Int32))), some (.int ((((a2 % (100 : Int32)) + (100 : Int32)) % (100 : Int32)) + (1 : Int32))), some (.int ((((a4 % (100 : Int32)) + (100 : Int32)) % (100 : Int32)) + (1 : Int32))), some (.ref 1), some (.int v7), none, none, none, none, none, none, none, none, none, none, none, none, none, none, none, none, none, none, none, none, none, none, none, none]) (st' := [.int ((((a2 % (100 : Int32)) + (100 : Int32)) % (100 : Int32)) + (1 : Int32)), .int (a1 &&& (3 : Int32)), .int (0 : Int32), .ref 1]) rfl ?_
    refine wpl_v1 (m' := 3) (me' := cm3) (as := [.int (0 : Int32), .int (a1 &&& (3 : Int32)), .int ((((a2 % (100 : Int32)) + (100 : Int32)) % (100 : Int32)) + (1 : Int32))]) (r := []) rfl rfl rfl rfl rfl ⟨by decide, (by first | decide | exact Nat.le_of_ble_eq_true rfl), (by first | decide | exact Nat.le_of_ble_eq_true rfl), rfl⟩ (cal_I (calI.mono h8 fun v10 s9 h11 => ?_))
    refine wpl_sl (n := 5) (pc' := 102) (ls' := [some (.int a0), some (.int a1), some (.int a2), some (.int a3), some (.int a4), some (.int m1), some (.int (a1 &&& (3 : Int32))), some (.int (a3 &&& (3 : Int32))), some (.int ((((a2 % (100 : Int32)) + (100 : Int32)) % (100 : Int32)) + (1 : Int32))), some (.int ((((a4 % (100 : Int32)) + (100 : Int32)) % (100 : Int32)) + (1 : Int32))), some (.ref 1), some (.int v7), some (.int v10), none, none, none, none, none, none, none, none, none, none, none, none, none, none, none, none, none, none, none, none, none, none, none]) (st' := [.int ((((a4 % (100 : Int32)) + (100 : Int32)) % (100 : Int32)) + (1 : Int32)), .int (a3 &&& (3 : Int32)), .int (0 : Int32), .ref 1]) rfl ?_
    refine wpl_v1 (m' := 3) (me' := cm3) (as := [.int (0 : Int32), .int (a3 &&& (3 : Int32)), .int ((((a4 % (100 : Int32)) + (100 : Int32)) % (100 : Int32)) + (1 : Int32))]) (r := []) rfl rfl rfl rfl rfl ⟨by decide, (by first | decide | exact Nat.le_of_ble_eq_true rfl), (by first | decide | exact Nat.le_of_ble_eq_true rfl), rfl⟩ (cal_I (calI.mono h11 fun v13 s12 h14 => ?_))
    refine wpl_sl (n := 3) (pc' := 110) (ls' := [some (.int a0), some (.int a1), some (.int a2), some (.int a3), some (.int a4), some (.int m1), some (.int (a1 &&& (3 : Int32))), some (.int (a3 &&& (3 : Int32))), some (.int ((((a2 % (100 : Int32)) + (100 : Int32)) % (100 : Int32)) + (1 : Int32))), some (.int ((((a4 % (100 : Int32)) + (100 : Int32)) % (100 : Int32)) + (1 : Int32))), some (.ref 1), some (.int v7), some (.int v10), some (.int v13), none, none, none, none, none, none, none, none, none, none, none, none, none, none, none, none, none, none, none, none, none, none]) (st' := [.int (0 : Int32), .ref 1]) rfl ?_
    refine wpl_v1 (m' := 4) (me' := cm4) (as := [.int (0 : Int32)]) (r := []) rfl rfl rfl rfl rfl ⟨by decide, (by first | decide | exact Nat.le_of_ble_eq_true rfl), (by first | decide | exact Nat.le_of_ble_eq_true rfl), rfl⟩ (cal_I (calI.mono h14 fun v16 s15 h17 => ?_))
    refine wpl_sl (n := 3) (pc' := 118) (ls' := [some (.int a0), some (.int a1), some (.int a2), some (.int a3), some (.int a4), some (.int m1), some (.int (a1 &&& (3 : Int32))), some (.int (a3 &&& (3 : Int32))), some (.int ((((a2 % (100 : Int32)) + (100 : Int32)) % (100 : Int32)) + (1 : Int32))), some (.int ((((a4 % (100 : Int32)) + (100 : Int32)) % (100 : Int32)) + (1 : Int32))), some (.ref 1), some (.int v7), some (.int v10), some (.int v13), some (.int v16), none, none, none, none, none, none, none, none, none, none, none, none, none, none, none, none, none, none, none, none, none]) (st' := [.int (0 : Int32), .ref 1]) rfl ?_
    refine wpl_v1 (m' := 5) (me' := cm5) (as := [.int (0 : Int32)]) (r := []) rfl rfl rfl rfl rfl ⟨by decide, (by first | decide | exact Nat.le_of_ble_eq_true rfl), (by first | decide | exact Nat.le_of_ble_eq_true rfl), rfl⟩ (cal_I (calI.mono h17 fun v19 s18 h20 => ?_))
    refine wpl_sl (n := 1) (pc' := 123) (ls' := [some (.int a0), some (.int a1), some (.int a2), some (.int a3), some (.int a4), some (.int m1), some (.int (a1 &&& (3 : Int32))), some (.int (a3 &&& (3 : Int32))), some (.int ((((a2 % (100 : Int32)) + (100 : Int32)) % (100 : Int32)) + (1 : Int32))), some (.int ((((a4 % (100 : Int32)) + (100 : Int32)) % (100 : Int32)) + (1 : Int32))), some (.ref 1), some (.int v7), some (.int v10), some (.int v13), some (.int v16), some (.int v19), none, none, none, none, none, none, none, none, none, none, none, none, none, none, none, none, none, none, none, none]) (st' := []) rfl ?_
    exact wpl_lle (ls := [none, none, none, none, none, some (.int m1), some (.int (a1 &&& (3 : Int32))), some (.int (a3 &&& (3 : Int32))), some (.int ((((a2 % (100 : Int32)) + (100 : Int32)) % (100 : Int32)) + (1 : Int32))), some (.int ((((a4 % (100 : Int32)) + (100 : Int32)) % (100 : Int32)) + (1 : Int32))), some (.ref 1), some (.int v7), some (.int v10), some (.int v13), some (.int v16), some (.int v19), none, none, none, none, none, none, none, none, none, none, none, none, none, none, none, none, none, none, none, none]) ⟨rfl, rfl, rfl, rfl, rfl, rfl, rfl, rfl, rfl, rfl, rfl, trivial⟩ h20
  refine wpl_if (a := 8) (b := 4) rfl (by decide) rfl rfl (wpl_br (p := a0 < (0 : Int32)) ⟨fun hc21 => ?_, fun hc21 => ?_⟩)
  · refine wpl_sl (n := 2) (pc' := 22) (ls' := [some (.int a0), some (.int a1), some (.int a2), some (.int a3), some (.int a4), none, none, none, none, none, none, none, none, none, none, none, none, none, none, none, none, none, none, none, none, none, none, none, none, none, none, none, none, none, none, none]) (st' := [.int (0 : Int32)]) rfl ?_
    first | exact hm2 _ (by simp only [if_pos hc21]) | exact wpl_lle (by repeat (first | exact trivial | refine ⟨rfl, ?_⟩)) (hm2 _ (by simp only [if_pos hc21]))
  · refine wpl_sl (n := 2) (pc' := 12) (ls' := [some (.int a0), some (.int a1), some (.int a2), some (.int a3), some (.int a4), none, none, none, none, none, none, none, none, none, none, none, none, none, none, none, none, none, none, none, none, none, none, none, none, none, none, none, none, none, none, none]) (st' := [.int (500 : Int32), .int a0]) rfl ?_
    refine wpl_icmp (a := 21) (b := 15) rfl (by decide) rfl rfl (wpl_br (p := (500 : Int32) < a0) ⟨fun hc22 => ?_, fun hc22 => ?_⟩)
    · refine wpl_sl (n := 2) (pc' := 22) (ls' := [some (.int a0), some (.int a1), some (.int a2), some (.int a3), some (.int a4), none, none, none, none, none, none, none, none, none, none, none, none, none, none, none, none, none, none, none, none, none, none, none, none, none, none, none, none, none, none, none]) (st' := [.int (500 : Int32)]) rfl ?_
      first | exact hm2 _ (by simp only [if_neg hc21, if_pos hc22]) | exact wpl_lle (by repeat (first | exact trivial | refine ⟨rfl, ?_⟩)) (hm2 _ (by simp only [if_neg hc21, if_pos hc22]))
    · refine wpl_sl (n := 1) (pc' := 22) (ls' := [some (.int a0), some (.int a1), some (.int a2), some (.int a3), some (.int a4), none, none, none, none, none, none, none, none, none, none, none, none, none, none, none, none, none, none, none, none, none, none, none, none, none, none, none, none, none, none, none]) (st' := [.int a0]) rfl ?_
      first | exact hm2 _ (by simp only [if_neg hc21, if_neg hc22]) | exact wpl_lle (by repeat (first | exact trivial | refine ⟨rfl, ?_⟩)) (hm2 _ (by simp only [if_neg hc21, if_neg hc22]))
theorem l0_123 (x5 : Int32) (x6 : Int32) (x7 : Int32) (x8 : Int32) (x9 : Int32) (x11 : Int32) (x12 : Int32) (x13 : Int32) (x14 : Int32) (x15 : Int32)  (Q : Int32 → Wd → Prop) (h : calI PP 7 12 [.ref 0, .int (0 : Int32)] s (fun v24 s23 => calI PP 5 12 [.ref 0, .int (0 : Int32)] s23 (fun v27 s26 => calI PP 7 12 [.ref 0, .int (0 : Int32)] s26 (fun v30 s29 => calI PP 5 12 [.ref 0, .int (0 : Int32)] s29 (fun v33 s32 => calI PP 7 12 [.ref 0, .int (0 : Int32)] s32 (fun v36 s35 => ∀ m38, m38 = (if x5 < x8 then (0 : Int32) else (1 : Int32)) → (∀ m41, m41 = (if m38 = (0 : Int32) then (0 : Int32) else (if x6 = x7 then (if (x5 - x8) < x9 then (0 : Int32) else (1 : Int32)) else (if (x5 - (0 : Int32)) < x9 then (0 : Int32) else (1 : Int32)))) → (wplI PP QQ none 0 lm0 208 [none, none, none, none, none, some (.int x5), some (.int x6), some (.int x7), some (.int x8), some (.int x9), some (.ref 1), some (.int x11), some (.int x12), some (.int x13), some (.int x14), some (.int x15), some (.int v24), some (.int v27), some (.int v30), some (.int v33), some (.int v36), some (.int m38), none, none, none, none, none, none, none, none, none, none, none, none, none, none] [.int m41] (W1 s35) Q)))))))) : wplI PP QQ none 0 lm0 123 [none, none, none, none, none, some (.int x5), some (.int x6), some (.int x7), some (.int x8), some (.int x9), some (.ref 1), some (.int x11), some (.int x12), some (.int x13), some (.int x14), some (.int x15), none, none, none, none, none, none, none, none, none, none, none, none, none, none, none, none, none, none, none, none] [] (W1 s) Q := by
  refine wpl_sl (n := 2) (pc' := 126) (ls' := [none, none, none, none, none, some (.int x5), some (.int x6), some (.int x7), some (.int x8), some (.int x9), some (.ref 1), some (.int x11), some (.int x12), some (.int x13), some (.int x14), some (.int x15), none, none, none, none, none, none, none, none, none, none, none, none, none, none, none, none, none, none, none, none]) (st' := [.int (0 : Int32), .ref 1]) rfl ?_
  refine wpl_v1 (m' := 7) (me' := cm7) (as := [.int (0 : Int32)]) (r := []) rfl rfl rfl rfl rfl ⟨by decide, (by first | decide | exact Nat.le_of_ble_eq_true rfl), (by first | decide | exact Nat.le_of_ble_eq_true rfl), rfl⟩ (cal_I (calI.mono h fun v24 s23 h25 => ?_))
  refine wpl_sl (n := 3) (pc' := 134) (ls' := [none, none, none, none, none, some (.int x5), some (.int x6), some (.int x7), some (.int x8), some (.int x9), some (.ref 1), some (.int x11), some (.int x12), some (.int x13), some (.int x14), some (.int x15), some (.int v24), none, none, none, none, none, none, none, none, none, none, none, none, none, none, none, none, none, none, none]) (st' := [.int (0 : Int32), .ref 1]) rfl ?_
  refine wpl_v1 (m' := 5) (me' := cm5) (as := [.int (0 : Int32)]) (r := []) rfl rfl rfl rfl rfl ⟨by decide, (by first | decide | exact Nat.le_of_ble_eq_true rfl), (by first | decide | exact Nat.le_of_ble_eq_true rfl), rfl⟩ (cal_I (calI.mono h25 fun v27 s26 h28 => ?_))
  refine wpl_sl (n := 3) (pc' := 142) (ls' := [none, none, none, none, none, some (.int x5), some (.int x6), some (.int x7), some (.int x8), some (.int x9), some (.ref 1), some (.int x11), some (.int x12), some (.int x13), some (.int x14), some (.int x15), some (.int v24), some (.int v27), none, none, none, none, none, none, none, none, none, none, none, none, none, none, none, none, none, none]) (st' := [.int (0 : Int32), .ref 1]) rfl ?_
  refine wpl_v1 (m' := 7) (me' := cm7) (as := [.int (0 : Int32)]) (r := []) rfl rfl rfl rfl rfl ⟨by decide, (by first | decide | exact Nat.le_of_ble_eq_true rfl), (by first | decide | exact Nat.le_of_ble_eq_true rfl), rfl⟩ (cal_I (calI.mono h28 fun v30 s29 h31 => ?_))
  refine wpl_sl (n := 3) (pc' := 150) (ls' := [none, none, none, none, none, some (.int x5), some (.int x6), some (.int x7), some (.int x8), some (.int x9), some (.ref 1), some (.int x11), some (.int x12), some (.int x13), some (.int x14), some (.int x15), some (.int v24), some (.int v27), some (.int v30), none, none, none, none, none, none, none, none, none, none, none, none, none, none, none, none, none]) (st' := [.int (0 : Int32), .ref 1]) rfl ?_
  refine wpl_v1 (m' := 5) (me' := cm5) (as := [.int (0 : Int32)]) (r := []) rfl rfl rfl rfl rfl ⟨by decide, (by first | decide | exact Nat.le_of_ble_eq_true rfl), (by first | decide | exact Nat.le_of_ble_eq_true rfl), rfl⟩ (cal_I (calI.mono h31 fun v33 s32 h34 => ?_))
  refine wpl_sl (n := 3) (pc' := 158) (ls' := [none, none, none, none, none, some (.int x5), some (.int x6), some (.int x7), some (.int x8), some (.int x9), some (.ref 1), some (.int x11), some (.int x12), some (.int x13), some (.int x14), some (.int x15), some (.int v24), some (.int v27), some (.int v30), some (.int v33), none, none, none, none, none, none, none, none, none, none, none, none, none, none, none, none]) (st' := [.int (0 : Int32), .ref 1]) rfl ?_
  refine wpl_v1 (m' := 7) (me' := cm7) (as := [.int (0 : Int32)]) (r := []) rfl rfl rfl rfl rfl ⟨by decide, (by first | decide | exact Nat.le_of_ble_eq_true rfl), (by first | decide | exact Nat.le_of_ble_eq_true rfl), rfl⟩ (cal_I (calI.mono h34 fun v36 s35 h37 => ?_))
  refine wpl_sl (n := 3) (pc' := 167) (ls' := [none, none, none, none, none, some (.int x5), some (.int x6), some (.int x7), some (.int x8), some (.int x9), some (.ref 1), some (.int x11), some (.int x12), some (.int x13), some (.int x14), some (.int x15), some (.int v24), some (.int v27), some (.int v30), some (.int v33), some (.int v36), none, none, none, none, none, none, none, none, none, none, none, none, none, none, none]) (st' := [.int x5, .int x8]) rfl ?_
  have hm39 : ∀ m38, m38 = (if x5 < x8 then (0 : Int32) else (1 : Int32)) → wplI PP QQ none 0 lm0 175 [none, none, none, none, none, some (.int x5), some (.int x6), some (.int x7), some (.int x8), some (.int x9), some (.ref 1), some (.int x11), some (.int x12), some (.int x13), some (.int x14), some (.int x15), some (.int v24), some (.int v27), some (.int v30), some (.int v33), some (.int v36), none, none, none, none, none, none, none, none, none, none, none, none, none, none, none] [.int m38] (W1 s35) Q := by
    intro m38 em38
    have h40 := h37 m38 em38
    refine wpl_sl (n := 2) (pc' := 179) (ls' := [none, none, none, none, none, some (.int x5), some (.int x6), some (.int x7), some (.int x8), some (.int x9), some (.ref 1), some (.int x11), some (.int x12), some (.int x13), some (.int x14), some (.int x15), some (.int v24), some (.int v27), some (.int v30), some (.int v33), some (.int v36), some (.int m38), none, none, none, none, none, none, none, none, none, none, none, none, none, none]) (st' := [.int m38]) rfl ?_
    have hm42 : ∀ m41, m41 = (if m38 = (0 : Int32) then (0 : Int32) else (if x6 = x7 then (if (x5 - x8) < x9 then (0 : Int32) else (1 : Int32)) else (if (x5 - (0 : Int32)) < x9 then (0 : Int32) else (1 : Int32)))) → wplI PP QQ none 0 lm0 208 [none, none, none, none, none, some (.int x5), some (.int x6), some (.int x7), some (.int x8), some (.int x9), some (.ref 1), some (.int x11), some (.int x12), some (.int x13), some (.int x14), some (.int x15), some (.int v24), some (.int v27), some (.int v30), some (.int v33), some (.int v36), some (.int m38), none, none, none, none, none, none, none, none, none, none, none, none, none, none] [.int m41] (W1 s35) Q := by
      intro m41 em41
      have h43 := h40 m41 em41
      exact h43
    refine wpl_if (a := 207) (b := 182) rfl (by decide) rfl rfl (wpl_br (p := m38 = (0 : Int32)) ⟨fun hc44 => ?_, fun hc44 => ?_⟩)
    · refine wpl_sl (n := 1) (pc' := 208) (ls' := [none, none, none, none, none, some (.int x5), some (.int x6), some (.int x7), some (.int x8), some (.int x9), some (.ref 1), some (.int x11), some (.int x12), some (.int x13), some (.int x14), some (.int x15), some (.int v24), some (.int v27), some (.int v30), some (.int v33), some (.int v36), some (.int m38), none, none, none, none, none, none, none, none, none, none, none, none, none, none]) (st' := [.int (0 : Int32)]) rfl ?_
      first | exact hm42 _ (by simp only [if_pos hc44]) | exact wpl_lle (by repeat (first | exact trivial | refine ⟨rfl, ?_⟩)) (hm42 _ (by simp only [if_pos hc44]))
    · refine wpl_sl (n := 4) (pc' := 190) (ls' := [none, none, none, none, none, some (.int x5), some (.int x6), some (.int x7), some (.int x8), some (.int x9), some (.ref 1), some (.int x11), some (.int x12), some (.int x13), some (.int x14), some (.int x15), some (.int v24), some (.int v27), some (.int v30), some (.int v33), some (.int v36), some (.int m38), none, none, none, none, none, none, none, none, none, none, none, none, none, none]) (st' := [.int x7, .int x6, .int x5, .int x9]) rfl ?_
      refine wpl_icmp (a := 198) (b := 193) rfl (by decide) rfl rfl (wpl_br (p := x6 = x7) ⟨fun hc45 => ?_, fun hc45 => ?_⟩)
      · refine wpl_sl (n := 3) (pc' := 200) (ls' := [none, none, none, none, none, some (.int x5), some (.int x6), some (.int x7), some (.int x8), some (.int x9), some (.ref 1), some (.int x11), some (.int x12), some (.int x13), some (.int x14), some (.int x15), some (.int v24), some (.int v27), some (.int v30), some (.int v33), some (.int v36), some (.int m38), none, none, none, none, none, none, none, none, none, none, none, none, none, none]) (st' := [.int (x5 - x8), .int x9]) rfl ?_
        refine wpl_icmp (a := 207) (b := 203) rfl (by decide) rfl rfl (wpl_br (p := (x5 - x8) < x9) ⟨fun hc46 => ?_, fun hc46 => ?_⟩)
        · refine wpl_sl (n := 1) (pc' := 208) (ls' := [none, none, none, none, none, some (.int x5), some (.int x6), some (.int x7), some (.int x8), some (.int x9), some (.ref 1), some (.int x11), some (.int x12), some (.int x13), some (.int x14), some (.int x15), some (.int v24), some (.int v27), some (.int v30), some (.int v33), some (.int v36), some (.int m38), none, none, none, none, none, none, none, none, none, none, none, none, none, none]) (st' := [.int (0 : Int32)]) rfl ?_
          first | exact hm42 _ (by simp only [if_neg hc44, if_pos hc45, if_pos hc46]) | exact wpl_lle (by repeat (first | exact trivial | refine ⟨rfl, ?_⟩)) (hm42 _ (by simp only [if_neg hc44, if_pos hc45, if_pos hc46]))
        · refine wpl_sl (n := 2) (pc' := 208) (ls' := [none, none, none, none, none, some (.int x5), some (.int x6), some (.int x7), some (.int x8), some (.int x9), some (.ref 1), some (.int x11), some (.int x12), some (.int x13), some (.int x14), some (.int x15), some (.int v24), some (.int v27), some (.int v30), some (.int v33), some (.int v36), some (.int m38), none, none, none, none, none, none, none, none, none, none, none, none, none, none]) (st' := [.int (1 : Int32)]) rfl ?_
          first | exact hm42 _ (by simp only [if_neg hc44, if_pos hc45, if_neg hc46]) | exact wpl_lle (by repeat (first | exact trivial | refine ⟨rfl, ?_⟩)) (hm42 _ (by simp only [if_neg hc44, if_pos hc45, if_neg hc46]))
      · refine wpl_sl (n := 2) (pc' := 200) (ls' := [none, none, none, none, none, some (.int x5), some (.int x6), some (.int x7), some (.int x8), some (.int x9), some (.ref 1), some (.int x11), some (.int x12), some (.int x13), some (.int x14), some (.int x15), some (.int v24), some (.int v27), some (.int v30), some (.int v33), some (.int v36), some (.int m38), none, none, none, none, none, none, none, none, none, none, none, none, none, none]) (st' := [.int (x5 - (0 : Int32)), .int x9]) rfl ?_
        refine wpl_icmp (a := 207) (b := 203) rfl (by decide) rfl rfl (wpl_br (p := (x5 - (0 : Int32)) < x9) ⟨fun hc47 => ?_, fun hc47 => ?_⟩)
        · refine wpl_sl (n := 1) (pc' := 208) (ls' := [none, none, none, none, none, some (.int x5), some (.int x6), some (.int x7), some (.int x8), some (.int x9), some (.ref 1), some (.int x11), some (.int x12), some (.int x13), some (.int x14), some (.int x15), some (.int v24), some (.int v27), some (.int v30), some (.int v33), some (.int v36), some (.int m38), none, none, none, none, none, none, none, none, none, none, none, none, none, none]) (st' := [.int (0 : Int32)]) rfl ?_
          first | exact hm42 _ (by simp only [if_neg hc44, if_neg hc45, if_pos hc47]) | exact wpl_lle (by repeat (first | exact trivial | refine ⟨rfl, ?_⟩)) (hm42 _ (by simp only [if_neg hc44, if_neg hc45, if_pos hc47]))
        · refine wpl_sl (n := 2) (pc' := 208) (ls' := [none, none, none, none, none, some (.int x5), some (.int x6), some (.int x7), some (.int x8), some (.int x9), some (.ref 1), some (.int x11), some (.int x12), some (.int x13), some (.int x14), some (.int x15), some (.int v24), some (.int v27), some (.int v30), some (.int v33), some (.int v36), some (.int m38), none, none, none, none, none, none, none, none, none, none, none, none, none, none]) (st' := [.int (1 : Int32)]) rfl ?_
          first | exact hm42 _ (by simp only [if_neg hc44, if_neg hc45, if_neg hc47]) | exact wpl_lle (by repeat (first | exact trivial | refine ⟨rfl, ?_⟩)) (hm42 _ (by simp only [if_neg hc44, if_neg hc45, if_neg hc47]))
  refine wpl_icmp (a := 174) (b := 170) rfl (by decide) rfl rfl (wpl_br (p := x5 < x8) ⟨fun hc48 => ?_, fun hc48 => ?_⟩)
  · refine wpl_sl (n := 1) (pc' := 175) (ls' := [none, none, none, none, none, some (.int x5), some (.int x6), some (.int x7), some (.int x8), some (.int x9), some (.ref 1), some (.int x11), some (.int x12), some (.int x13), some (.int x14), some (.int x15), some (.int v24), some (.int v27), some (.int v30), some (.int v33), some (.int v36), none, none, none, none, none, none, none, none, none, none, none, none, none, none, none]) (st' := [.int (0 : Int32)]) rfl ?_
    first | exact hm39 _ (by simp only [if_pos hc48]) | exact wpl_lle (by repeat (first | exact trivial | refine ⟨rfl, ?_⟩)) (hm39 _ (by simp only [if_pos hc48]))
  · refine wpl_sl (n := 2) (pc' := 175) (ls' := [none, none, none, none, none, some (.int x5), some (.int x6), some (.int x7), some (.int x8), some (.int x9), some (.ref 1), some (.int x11), some (.int x12), some (.int x13), some (.int x14), some (.int x15), some (.int v24), some (.int v27), some (.int v30), some (.int v33), some (.int v36), none, none, none, none, none, none, none, none, none, none, none, none, none, none, none]) (st' := [.int (1 : Int32)]) rfl ?_
    first | exact hm39 _ (by simp only [if_neg hc48]) | exact wpl_lle (by repeat (first | exact trivial | refine ⟨rfl, ?_⟩)) (hm39 _ (by simp only [if_neg hc48]))
theorem l0_208 (x5 : Int32) (x6 : Int32) (x7 : Int32) (x8 : Int32) (x9 : Int32) (x11 : Int32) (x12 : Int32) (x13 : Int32) (x14 : Int32) (x15 : Int32) (x16 : Int32) (x17 : Int32) (x18 : Int32) (x19 : Int32) (x20 : Int32) (x21 : Int32) (y0 : Int32)  (Q : Int32 → Wd → Prop) (h : ∀ m49, m49 = (if x21 = (0 : Int32) then (2 : Int32) else (1 : Int32)) → ∀ m50, m50 = (if x21 = (0 : Int32) then (5 : Int32) else (2 : Int32)) → ∀ m51, m51 = (if x21 = (0 : Int32) then (-1 : Int32) else (if y0 = (0 : Int32) then (2 : Int32) else (1 : Int32))) → ∀ m52, m52 = (if x21 = (0 : Int32) then (-1 : Int32) else (if y0 = (0 : Int32) then (3 : Int32) else (4 : Int32))) → ∀ m53, m53 = (if x21 = (0 : Int32) then (-1 : Int32) else (if y0 = (0 : Int32) then (3 : Int32) else (-1 : Int32))) → ∀ m54, m54 = (if x21 = (0 : Int32) then (-1 : Int32) else (if y0 = (0 : Int32) then (5 : Int32) else (-1 : Int32))) → ∀ m55, m55 = (if x21 = (0 : Int32) then (3 : Int32) else (if y0 = (0 : Int32) then (5 : Int32) else (2 : Int32))) → ∀ m56, m56 = (if x21 = (0 : Int32) then (0 : Int32) else (if y0 = (0 : Int32) then (3 : Int32) else (2 : Int32))) → ∀ m57, m57 = (if x21 = (0 : Int32) then (2 : Int32) else (if y0 = (0 : Int32) then (3 : Int32) else (1 : Int32))) → ∀ m58, m58 = (if x21 = (0 : Int32) then (0 : Int32) else (if y0 = (0 : Int32) then (2 : Int32) else (1 : Int32))) → (∀ m61, m61 = (if x11 = (0 : Int32) then (if x12 = (0 : Int32) then (if x13 = (1 : Int32) then (if x14 = (0 : Int32) then (0 : Int32) else (1 : Int32)) else (0 : Int32)) else (0 : Int32)) else (0 : Int32)) → (wplI PP QQ none 0 lm0 342 [none, none, none, none, none, some (.int x5), some (.int x6), some (.int x7), some (.int x8), some (.int x9), some (.ref 1), none, none, none, none, some (.int x15), some (.int x16), some (.int x17), some (.int x18), some (.int x19), some (.int x20), none, some (.int y0), some (.int m49), some (.int m50), some (.int m51), some (.int m52), some (.int m53), some (.int m54), some (.int m55), some (.int m56), some (.int m57), some (.int m58), none, none, none] [.int m61] (W1 s) Q))) : wplI PP QQ none 0 lm0 208 [none, none, none, none, none, some (.int x5), some (.int x6), some (.int x7), some (.int x8), some (.int x9), some (.ref 1), some (.int x11), some (.int x12), some (.int x13), some (.int x14), some (.int x15), some (.int x16), some (.int x17), some (.int x18), some (.int x19), some (.int x20), some (.int x21), none, none, none, none, none, none, none, none, none, none, none, none, none, none] [.int y0] (W1 s) Q := by
  refine wpl_sl (n := 2) (pc' := 212) (ls' := [none, none, none, none, none, some (.int x5), some (.int x6), some (.int x7), some (.int x8), some (.int x9), some (.ref 1), some (.int x11), some (.int x12), some (.int x13), some (.int x14), some (.int x15), some (.int x16), some (.int x17), some (.int x18), some (.int x19), some (.int x20), some (.int x21), some (.int y0), none, none, none, none, none, none, none, none, none, none, none, none, none]) (st' := [.int x21]) rfl ?_
  have hm59 : ∀ m49, m49 = (if x21 = (0 : Int32) then (2 : Int32) else (1 : Int32)) → ∀ m50, m50 = (if x21 = (0 : Int32) then (5 : Int32) else (2 : Int32)) → ∀ m51, m51 = (if x21 = (0 : Int32) then (-1 : Int32) else (if y0 = (0 : Int32) then (2 : Int32) else (1 : Int32))) → ∀ m52, m52 = (if x21 = (0 : Int32) then (-1 : Int32) else (if y0 = (0 : Int32) then (3 : Int32) else (4 : Int32))) → ∀ m53, m53 = (if x21 = (0 : Int32) then (-1 : Int32) else (if y0 = (0 : Int32) then (3 : Int32) else (-1 : Int32))) → ∀ m54, m54 = (if x21 = (0 : Int32) then (-1 : Int32) else (if y0 = (0 : Int32) then (5 : Int32) else (-1 : Int32))) → ∀ m55, m55 = (if x21 = (0 : Int32) then (3 : Int32) else (if y0 = (0 : Int32) then (5 : Int32) else (2 : Int32))) → ∀ m56, m56 = (if x21 = (0 : Int32) then (0 : Int32) else (if y0 = (0 : Int32) then (3 : Int32) else (2 : Int32))) → ∀ m57, m57 = (if x21 = (0 : Int32) then (2 : Int32) else (if y0 = (0 : Int32) then (3 : Int32) else (1 : Int32))) → ∀ m58, m58 = (if x21 = (0 : Int32) then (0 : Int32) else (if y0 = (0 : Int32) then (2 : Int32) else (1 : Int32))) → wplI PP QQ none 0 lm0 316 [none, none, none, none, none, some (.int x5), some (.int x6), some (.int x7), some (.int x8), some (.int x9), some (.ref 1), some (.int x11), some (.int x12), some (.int x13), some (.int x14), some (.int x15), some (.int x16), some (.int x17), some (.int x18), some (.int x19), some (.int x20), some (.int x21), some (.int y0), some (.int m49), some (.int m50), some (.int m51), some (.int m52), some (.int m53), some (.int m54), some (.int m55), some (.int m56), some (.int m57), some (.int m58), none, none, none] [] (W1 s) Q := by
    intro m49 em49 m50 em50 m51 em51 m52 em52 m53 em53 m54 em54 m55 em55 m56 em56 m57 em57 m58 em58
    have h60 := h m49 em49 m50 em50 m51 em51 m52 em52 m53 em53 m54 em54 m55 em55 m56 em56 m57 em57 m58 em58
    refine wpl_sl (n := 1) (pc' := 318) (ls' := [none, none, none, none, none, some (.int x5), some (.int x6), some (.int x7), some (.int x8), some (.int x9), some (.ref 1), some (.int x11), some (.int x12), some (.int x13), some (.int x14), some (.int x15), some (.int x16), some (.int x17), some (.int x18), some (.int x19), some (.int x20), some (.int x21), some (.int y0), some (.int m49), some (.int m50), some (.int m51), some (.int m52), some (.int m53), some (.int m54), some (.int m55), some (.int m56), some (.int m57), some (.int m58), none, none, none]) (st' := [.int x11]) rfl ?_
    have hm62 : ∀ m61, m61 = (if x11 = (0 : Int32) then (if x12 = (0 : Int32) then (if x13 = (1 : Int32) then (if x14 = (0 : Int32) then (0 : Int32) else (1 : Int32)) else (0 : Int32)) else (0 : Int32)) else (0 : Int32)) → wplI PP QQ none 0 lm0 342 [none, none, none, none, none, some (.int x5), some (.int x6), some (.int x7), some (.int x8), some (.int x9), some (.ref 1), some (.int x11), some (.int x12), some (.int x13), some (.int x14), some (.int x15), some (.int x16), some (.int x17), some (.int x18), some (.int x19), some (.int x20), some (.int x21), some (.int y0), some (.int m49), some (.int m50), some (.int m51), some (.int m52), some (.int m53), some (.int m54), some (.int m55), some (.int m56), some (.int m57), some (.int m58), none, none, none] [.int m61] (W1 s) Q := by
      intro m61 em61
      have h63 := h60 m61 em61
      exact wpl_lle (ls := [none, none, none, none, none, some (.int x5), some (.int x6), some (.int x7), some (.int x8), some (.int x9), some (.ref 1), none, none, none, none, some (.int x15), some (.int x16), some (.int x17), some (.int x18), some (.int x19), some (.int x20), none, some (.int y0), some (.int m49), some (.int m50), some (.int m51), some (.int m52), some (.int m53), some (.int m54), some (.int m55), some (.int m56), some (.int m57), some (.int m58), none, none, none]) ⟨rfl, rfl, rfl, rfl, rfl, rfl, rfl, rfl, rfl, rfl, rfl, rfl, rfl, rfl, rfl, rfl, rfl, rfl, rfl, rfl, rfl, rfl, rfl, trivial⟩ h63
    refine wpl_if (a := 341) (b := 321) rfl (by decide) rfl rfl (wpl_br (p := x11 = (0 : Int32)) ⟨fun hc64 => ?_, fun hc64 => ?_⟩)
    · refine wpl_sl (n := 1) (pc' := 323) (ls' := [none, none, none, none, none, some (.int x5), some (.int x6), some (.int x7), some (.int x8), some (.int x9), some (.ref 1), some (.int x11), some (.int x12), some (.int x13), some (.int x14), some (.int x15), some (.int x16), some (.int x17), some (.int x18), some (.int x19), some (.int x20), some (.int x21), some (.int y0), some (.int m49), some (.int m50), some (.int m51), some (.int m52), some (.int m53), some (.int m54), some (.int m55), some (.int m56), some (.int m57), some (.int m58), none, none, none]) (st' := [.int x12]) rfl ?_
      refine wpl_if (a := 341) (b := 326) rfl (by decide) rfl rfl (wpl_br (p := x12 = (0 : Int32)) ⟨fun hc65 => ?_, fun hc65 => ?_⟩)
      · refine wpl_sl (n := 2) (pc' := 329) (ls' := [none, none, none, none, none, some (.int x5), some (.int x6), some (.int x7), some (.int x8), some (.int x9), some (.ref 1), some (.int x11), some (.int x12), some (.int x13), some (.int x14), some (.int x15), some (.int x16), some (.int x17), some (.int x18), some (.int x19), some (.int x20), some (.int x21), some (.int y0), some (.int m49), some (.int m50), some (.int m51), some (.int m52), some (.int m53), some (.int m54), some (.int m55), some (.int m56), some (.int m57), some (.int m58), none, none, none]) (st' := [.int (1 : Int32), .int x13]) rfl ?_
        refine wpl_icmp (a := 341) (b := 332) rfl (by decide) rfl rfl (wpl_br (p := x13 = (1 : Int32)) ⟨fun hc66 => ?_, fun hc66 => ?_⟩)
        · refine wpl_sl (n := 1) (pc' := 334) (ls' := [none, none, none, none, none, some (.int x5), some (.int x6), some (.int x7), some (.int x8), some (.int x9), some (.ref 1), some (.int x11), some (.int x12), some (.int x13), some (.int x14), some (.int x15), some (.int x16), some (.int x17), some (.int x18), some (.int x19), some (.int x20), some (.int x21), some (.int y0), some (.int m49), some (.int m50), some (.int m51), some (.int m52), some (.int m53), some (.int m54), some (.int m55), some (.int m56), some (.int m57), some (.int m58), none, none, none]) (st' := [.int x14]) rfl ?_
          refine wpl_if (a := 341) (b := 337) rfl (by decide) rfl rfl (wpl_br (p := x14 = (0 : Int32)) ⟨fun hc67 => ?_, fun hc67 => ?_⟩)
          · refine wpl_sl (n := 1) (pc' := 342) (ls' := [none, none, none, none, none, some (.int x5), some (.int x6), some (.int x7), some (.int x8), some (.int x9), some (.ref 1), some (.int x11), some (.int x12), some (.int x13), some (.int x14), some (.int x15), some (.int x16), some (.int x17), some (.int x18), some (.int x19), some (.int x20), some (.int x21), some (.int y0), some (.int m49), some (.int m50), some (.int m51), some (.int m52), some (.int m53), some (.int m54), some (.int m55), some (.int m56), some (.int m57), some (.int m58), none, none, none]) (st' := [.int (0 : Int32)]) rfl ?_
            first | exact hm62 _ (by simp only [if_pos hc64, if_pos hc65, if_pos hc66, if_pos hc67]) | exact wpl_lle (by repeat (first | exact trivial | refine ⟨rfl, ?_⟩)) (hm62 _ (by simp only [if_pos hc64, if_pos hc65, if_pos hc66, if_pos hc67]))
          · refine wpl_sl (n := 2) (pc' := 342) (ls' := [none, none, none, none, none, some (.int x5), some (.int x6), some (.int x7), some (.int x8), some (.int x9), some (.ref 1), some (.int x11), some (.int x12), some (.int x13), some (.int x14), some (.int x15), some (.int x16), some (.int x17), some (.int x18), some (.int x19), some (.int x20), some (.int x21), some (.int y0), some (.int m49), some (.int m50), some (.int m51), some (.int m52), some (.int m53), some (.int m54), some (.int m55), some (.int m56), some (.int m57), some (.int m58), none, none, none]) (st' := [.int (1 : Int32)]) rfl ?_
            first | exact hm62 _ (by simp only [if_pos hc64, if_pos hc65, if_pos hc66, if_neg hc67]) | exact wpl_lle (by repeat (first | exact trivial | refine ⟨rfl, ?_⟩)) (hm62 _ (by simp only [if_pos hc64, if_pos hc65, if_pos hc66, if_neg hc67]))
        · refine wpl_sl (n := 1) (pc' := 342) (ls' := [none, none, none, none, none, some (.int x5), some (.int x6), some (.int x7), some (.int x8), some (.int x9), some (.ref 1), some (.int x11), some (.int x12), some (.int x13), some (.int x14), some (.int x15), some (.int x16), some (.int x17), some (.int x18), some (.int x19), some (.int x20), some (.int x21), some (.int y0), some (.int m49), some (.int m50), some (.int m51), some (.int m52), some (.int m53), some (.int m54), some (.int m55), some (.int m56), some (.int m57), some (.int m58), none, none, none]) (st' := [.int (0 : Int32)]) rfl ?_
          first | exact hm62 _ (by simp only [if_pos hc64, if_pos hc65, if_neg hc66]) | exact wpl_lle (by repeat (first | exact trivial | refine ⟨rfl, ?_⟩)) (hm62 _ (by simp only [if_pos hc64, if_pos hc65, if_neg hc66]))
      · refine wpl_sl (n := 1) (pc' := 342) (ls' := [none, none, none, none, none, some (.int x5), some (.int x6), some (.int x7), some (.int x8), some (.int x9), some (.ref 1), some (.int x11), some (.int x12), some (.int x13), some (.int x14), some (.int x15), some (.int x16), some (.int x17), some (.int x18), some (.int x19), some (.int x20), some (.int x21), some (.int y0), some (.int m49), some (.int m50), some (.int m51), some (.int m52), some (.int m53), some (.int m54), some (.int m55), some (.int m56), some (.int m57), some (.int m58), none, none, none]) (st' := [.int (0 : Int32)]) rfl ?_
        first | exact hm62 _ (by simp only [if_pos hc64, if_neg hc65]) | exact wpl_lle (by repeat (first | exact trivial | refine ⟨rfl, ?_⟩)) (hm62 _ (by simp only [if_pos hc64, if_neg hc65]))
    · refine wpl_sl (n := 1) (pc' := 342) (ls' := [none, none, none, none, none, some (.int x5), some (.int x6), some (.int x7), some (.int x8), some (.int x9), some (.ref 1), some (.int x11), some (.int x12), some (.int x13), some (.int x14), some (.int x15), some (.int x16), some (.int x17), some (.int x18), some (.int x19), some (.int x20), some (.int x21), some (.int y0), some (.int m49), some (.int m50), some (.int m51), some (.int m52), some (.int m53), some (.int m54), some (.int m55), some (.int m56), some (.int m57), some (.int m58), none, none, none]) (st' := [.int (0 : Int32)]) rfl ?_
      first | exact hm62 _ (by simp only [if_neg hc64]) | exact wpl_lle (by repeat (first | exact trivial | refine ⟨rfl, ?_⟩)) (hm62 _ (by simp only [if_neg hc64]))
  refine wpl_if (a := 248) (b := 215) rfl (by decide) rfl rfl (wpl_br (p := x21 = (0 : Int32)) ⟨fun hc68 => ?_, fun hc68 => ?_⟩)
  · refine wpl_sl (n := 5) (pc' := 222) (ls' := [none, none, none, none, none, some (.int x5), some (.int x6), some (.int x7), some (.int x8), some (.int x9), some (.ref 1), some (.int x11), some (.int x12), some (.int x13), some (.int x14), some (.int x15), some (.int x16), some (.int x17), some (.int x18), some (.int x19), some (.int x20), some (.int x21), some (.int y0), some (.int (2 : Int32)), some (.int (5 : Int32)), none, none, none, none, none, none, none, none, none, none, none]) (st' := [.int (-1 : Int32)]) rfl ?_
    refine wpl_sl (n := 5) (pc' := 230) (ls' := [none, none, none, none, none, some (.int x5), some (.int x6), some (.int x7), some (.int x8), some (.int x9), some (.ref 1), some (.int x11), some (.int x12), some (.int x13), some (.int x14), some (.int x15), some (.int x16), some (.int x17), some (.int x18), some (.int x19), some (.int x20), some (.int x21), some (.int y0), some (.int (2 : Int32)), some (.int (5 : Int32)), some (.int (-1 : Int32)), some (.int (-1 : Int32)), some (.int (-1 : Int32)), none, none, none, none, none, none, none, none]) (st' := []) rfl ?_
    refine wpl_sl (n := 5) (pc' := 237) (ls' := [none, none, none, none, none, some (.int x5), some (.int x6), some (.int x7), some (.int x8), some (.int x9), some (.ref 1), some (.int x11), some (.int x12), some (.int x13), some (.int x14), some (.int x15), some (.int x16), some (.int x17), some (.int x18), some (.int x19), some (.int x20), some (.int x21), some (.int y0), some (.int (2 : Int32)), some (.int (5 : Int32)), some (.int (-1 : Int32)), some (.int (-1 : Int32)), some (.int (-1 : Int32)), some (.int (-1 : Int32)), some (.int (3 : Int32)), none, none, none, none, none, none]) (st' := [.int (0 : Int32)]) rfl ?_
    refine wpl_sl (n := 5) (pc' := 245) (ls' := [none, none, none, none, none, some (.int x5), some (.int x6), some (.int x7), some (.int x8), some (.int x9), some (.ref 1), some (.int x11), some (.int x12), some (.int x13), some (.int x14), some (.int x15), some (.int x16), some (.int x17), some (.int x18), some (.int x19), some (.int x20), some (.int x21), some (.int y0), some (.int (2 : Int32)), some (.int (5 : Int32)), some (.int (-1 : Int32)), some (.int (-1 : Int32)), some (.int (-1 : Int32)), some (.int (-1 : Int32)), some (.int (3 : Int32)), some (.int (0 : Int32)), some (.int (2 : Int32)), some (.int (0 : Int32)), none, none, none]) (st' := []) rfl ?_
    refine wpl_sl (n := 1) (pc' := 316) (ls' := [none, none, none, none, none, some (.int x5), some (.int x6), some (.int x7), some (.int x8), some (.int x9), some (.ref 1), some (.int x11), some (.int x12), some (.int x13), some (.int x14), some (.int x15), some (.int x16), some (.int x17), some (.int x18), some (.int x19), some (.int x20), some (.int x21), some (.int y0), some (.int (2 : Int32)), some (.int (5 : Int32)), some (.int (-1 : Int32)), some (.int (-1 : Int32)), some (.int (-1 : Int32)), some (.int (-1 : Int32)), some (.int (3 : Int32)), some (.int (0 : Int32)), some (.int (2 : Int32)), some (.int (0 : Int32)), none, none, none]) (st' := []) rfl ?_
    first | exact hm59 _ (by simp only [if_pos hc68]) _ (by simp only [if_pos hc68]) _ (by simp only [if_pos hc68]) _ (by simp only [if_pos hc68]) _ (by simp only [if_pos hc68]) _ (by simp only [if_pos hc68]) _ (by simp only [if_pos hc68]) _ (by simp only [if_pos hc68]) _ (by simp only [if_pos hc68]) _ (by simp only [if_pos hc68]) | exact wpl_lle (by repeat (first | exact trivial | refine ⟨rfl, ?_⟩)) (hm59 _ (by simp only [if_pos hc68]) _ (by simp only [if_pos hc68]) _ (by simp only [if_pos hc68]) _ (by simp only [if_pos hc68]) _ (by simp only [if_pos hc68]) _ (by simp only [if_pos hc68]) _ (by simp only [if_pos hc68]) _ (by simp only [if_pos hc68]) _ (by simp only [if_pos hc68]) _ (by simp only [if_pos hc68]))
  · refine wpl_sl (n := 1) (pc' := 250) (ls' := [none, none, none, none, none, some (.int x5), some (.int x6), some (.int x7), some (.int x8), some (.int x9), some (.ref 1), some (.int x11), some (.int x12), some (.int x13), some (.int x14), some (.int x15), some (.int x16), some (.int x17), some (.int x18), some (.int x19), some (.int x20), some (.int x21), some (.int y0), none, none, none, none, none, none, none, none, none, none, none, none, none]) (st' := [.int y0]) rfl ?_
    refine wpl_if (a := 286) (b := 253) rfl (by decide) rfl rfl (wpl_br (p := y0 = (0 : Int32)) ⟨fun hc69 => ?_, fun hc69 => ?_⟩)
    · refine wpl_sl (n := 5) (pc' := 293) (ls' := [none, none, none, none, none, some (.int x5), some (.int x6), some (.int x7), some (.int x8), some (.int x9), some (.ref 1), some (.int x11), some (.int x12), some (.int x13), some (.int x14), some (.int x15), some (.int x16), some (.int x17), some (.int x18), some (.int x19), some (.int x20), some (.int x21), some (.int y0), some (.int (1 : Int32)), some (.int (2 : Int32)), none, none, none, none, none, none, none, none, none, none, none]) (st' := [.int (2 : Int32)]) rfl ?_
      refine wpl_sl (n := 5) (pc' := 301) (ls' := [none, none, none, none, none, some (.int x5), some (.int x6), some (.int x7), some (.int x8), some (.int x9), some (.ref 1), some (.int x11), some (.int x12), some (.int x13), some (.int x14), some (.int x15), some (.int x16), some (.int x17), some (.int x18), some (.int x19), some (.int x20), some (.int x21), some (.int y0), some (.int (1 : Int32)), some (.int (2 : Int32)), some (.int (2 : Int32)), some (.int (3 : Int32)), some (.int (3 : Int32)), none, none, none, none, none, none, none, none]) (st' := []) rfl ?_
      refine wpl_sl (n := 5) (pc' := 308) (ls' := [none, none, none, none, none, some (.int x5), some (.int x6), some (.int x7), some (.int x8), some (.int x9), some (.ref 1), some (.int x11), some (.int x12), some (.int x13), some (.int x14), some (.int x15), some (.int x16), some (.int x17), some (.int x18), some (.int x19), some (.int x20), some (.int x21), some (.int y0), some (.int (1 : Int32)), some (.int (2 : Int32)), some (.int (2 : Int32)), some (.int (3 : Int32)), some (.int (3 : Int32)), some (.int (5 : Int32)), some (.int (5 : Int32)), none, none, none, none, none, none]) (st' := [.int (3 : Int32)]) rfl ?_
      refine wpl_sl (n := 5) (pc' := 316) (ls' := [none, none, none, none, none, some (.int x5), some (.int x6), some (.int x7), some (.int x8), some (.int x9), some (.ref 1), some (.int x11), some (.int x12), some (.int x13), some (.int x14), some (.int x15), some (.int x16), some (.int x17), some (.int x18), some (.int x19), some (.int x20), some (.int x21), some (.int y0), some (.int (1 : Int32)), some (.int (2 : Int32)), some (.int (2 : Int32)), some (.int (3 : Int32)), some (.int (3 : Int32)), some (.int (5 : Int32)), some (.int (5 : Int32)), some (.int (3 : Int32)), some (.int (3 : Int32)), some (.int (2 : Int32)), none, none, none]) (st' := []) rfl ?_
      first | exact hm59 _ (by simp only [if_neg hc68, if_pos hc69]) _ (by simp only [if_neg hc68, if_pos hc69]) _ (by simp only [if_neg hc68, if_pos hc69]) _ (by simp only [if_neg hc68, if_pos hc69]) _ (by simp only [if_neg hc68, if_pos hc69]) _ (by simp only [if_neg hc68, if_pos hc69]) _ (by simp only [if_neg hc68, if_pos hc69]) _ (by simp only [if_neg hc68, if_pos hc69]) _ (by simp only [if_neg hc68, if_pos hc69]) _ (by simp only [if_neg hc68, if_pos hc69]) | exact wpl_lle (by repeat (first | exact trivial | refine ⟨rfl, ?_⟩)) (hm59 _ (by simp only [if_neg hc68, if_pos hc69]) _ (by simp only [if_neg hc68, if_pos hc69]) _ (by simp only [if_neg hc68, if_pos hc69]) _ (by simp only [if_neg hc68, if_pos hc69]) _ (by simp only [if_neg hc68, if_pos hc69]) _ (by simp only [if_neg hc68, if_pos hc69]) _ (by simp only [if_neg hc68, if_pos hc69]) _ (by simp only [if_neg hc68, if_pos hc69]) _ (by simp only [if_neg hc68, if_pos hc69]) _ (by simp only [if_neg hc68, if_pos hc69]))
    · refine wpl_sl (n := 5) (pc' := 260) (ls' := [none, none, none, none, none, some (.int x5), some (.int x6), some (.int x7), some (.int x8), some (.int x9), some (.ref 1), some (.int x11), some (.int x12), some (.int x13), some (.int x14), some (.int x15), some (.int x16), some (.int x17), some (.int x18), some (.int x19), some (.int x20), some (.int x21), some (.int y0), some (.int (1 : Int32)), some (.int (2 : Int32)), none, none, none, none, none, none, none, none, none, none, none]) (st' := [.int (1 : Int32)]) rfl ?_
      refine wpl_sl (n := 5) (pc' := 268) (ls' := [none, none, none, none, none, some (.int x5), some (.int x6), some (.int x7), some (.int x8), some (.int x9), some (.ref 1), some (.int x11), some (.int x12), some (.int x13), some (.int x14), some (.int x15), some (.int x16), some (.int x17), some (.int x18), some (.int x19), some (.int x20), some (.int x21), some (.int y0), some (.int (1 : Int32)), some (.int (2 : Int32)), some (.int (1 : Int32)), some (.int (4 : Int32)), some (.int (-1 : Int32)), none, none, none, none, none, none, none, none]) (st' := []) rfl ?_
      refine wpl_sl (n := 5) (pc' := 275) (ls' := [none, none, none, none, none, some (.int x5), some (.int x6), some (.int x7), some (.int x8), some (.int x9), some (.ref 1), some (.int x11), some (.int x12), some (.int x13), some (.int x14), some (.int x15), some (.int x16), some (.int x17), some (.int x18), some (.int x19), some (.int x20), some (.int x21), some (.int y0), some (.int (1 : Int32)), some (.int (2 : Int32)), some (.int (1 : Int32)), some (.int (4 : Int32)), some (.int (-1 : Int32)), some (.int (-1 : Int32)), some (.int (2 : Int32)), none, none, none, none, none, none]) (st' := [.int (2 : Int32)]) rfl ?_
      refine wpl_sl (n := 5) (pc' := 283) (ls' := [none, none, none, none, none, some (.int x5), some (.int x6), some (.int x7), some (.int x8), some (.int x9), some (.ref 1), some (.int x11), some (.int x12), some (.int x13), some (.int x14), some (.int x15), some (.int x16), some (.int x17), some (.int x18), some (.int x19), some (.int x20), some (.int x21), some (.int y0), some (.int (1 : Int32)), some (.int (2 : Int32)), some (.int (1 : Int32)), some (.int (4 : Int32)), some (.int (-1 : Int32)), some (.int (-1 : Int32)), some (.int (2 : Int32)), some (.int (2 : Int32)), some (.int (1 : Int32)), some (.int (1 : Int32)), none, none, none]) (st' := []) rfl ?_
      refine wpl_sl (n := 1) (pc' := 316) (ls' := [none, none, none, none, none, some (.int x5), some (.int x6), some (.int x7), some (.int x8), some (.int x9), some (.ref 1), some (.int x11), some (.int x12), some (.int x13), some (.int x14), some (.int x15), some (.int x16), some (.int x17), some (.int x18), some (.int x19), some (.int x20), some (.int x21), some (.int y0), some (.int (1 : Int32)), some (.int (2 : Int32)), some (.int (1 : Int32)), some (.int (4 : Int32)), some (.int (-1 : Int32)), some (.int (-1 : Int32)), some (.int (2 : Int32)), some (.int (2 : Int32)), some (.int (1 : Int32)), some (.int (1 : Int32)), none, none, none]) (st' := []) rfl ?_
      first | exact hm59 _ (by simp only [if_neg hc68, if_neg hc69]) _ (by simp only [if_neg hc68, if_neg hc69]) _ (by simp only [if_neg hc68, if_neg hc69]) _ (by simp only [if_neg hc68, if_neg hc69]) _ (by simp only [if_neg hc68, if_neg hc69]) _ (by simp only [if_neg hc68, if_neg hc69]) _ (by simp only [if_neg hc68, if_neg hc69]) _ (by simp only [if_neg hc68, if_neg hc69]) _ (by simp only [if_neg hc68, if_neg hc69]) _ (by simp only [if_neg hc68, if_neg hc69]) | exact wpl_lle (by repeat (first | exact trivial | refine ⟨rfl, ?_⟩)) (hm59 _ (by simp only [if_neg hc68, if_neg hc69]) _ (by simp only [if_neg hc68, if_neg hc69]) _ (by simp only [if_neg hc68, if_neg hc69]) _ (by simp only [if_neg hc68, if_neg hc69]) _ (by simp only [if_neg hc68, if_neg hc69]) _ (by simp only [if_neg hc68, if_neg hc69]) _ (by simp only [if_neg hc68, if_neg hc69]) _ (by simp only [if_neg hc68, if_neg hc69]) _ (by simp only [if_neg hc68, if_neg hc69]) _ (by simp only [if_neg hc68, if_neg hc69]))
theorem l0_342 (x5 : Int32) (x6 : Int32) (x7 : Int32) (x8 : Int32) (x9 : Int32) (x15 : Int32) (x16 : Int32) (x17 : Int32) (x18 : Int32) (x19 : Int32) (x20 : Int32) (x22 : Int32) (x23 : Int32) (x24 : Int32) (x25 : Int32) (x26 : Int32) (x27 : Int32) (x28 : Int32) (x29 : Int32) (x30 : Int32) (x31 : Int32) (x32 : Int32) (y0 : Int32)  (Q : Int32 → Wd → Prop) (h : ∀ m70, m70 = (if y0 = (0 : Int32) then (0 : Int32) else (if x15 = x23 then (if x16 = x24 then (if x17 = x25 then (if x18 = x26 then (if x19 = x27 then (if x20 = x28 then (1 : Int32) else (0 : Int32)) else (0 : Int32)) else (0 : Int32)) else (0 : Int32)) else (0 : Int32)) else (0 : Int32))) → (wplI PP QQ none 0 lm0 396 [none, none, none, none, none, some (.int x5), some (.int x6), some (.int x7), some (.int x8), some (.int x9), some (.ref 1), none, none, none, none, none, none, none, none, none, none, none, some (.int x22), none, none, none, none, none, none, some (.int x29), some (.int x30), some (.int x31), some (.int x32), none, none, none] [.int m70] (W1 s) Q)) : wplI PP QQ none 0 lm0 342 [none, none, none, none, none, some (.int x5), some (.int x6), some (.int x7), some (.int x8), some (.int x9), some (.ref 1), none, none, none, none, some (.int x15), some (.int x16), some (.int x17), some (.int x18), some (.int x19), some (.int x20), none, some (.int x22), some (.int x23), some (.int x24), some (.int x25), some (.int x26), some (.int x27), some (.int x28), some (.int x29), some (.int x30), some (.int x31), some (.int x32), none, none, none] [.int y0] (W1 s) Q := by
  refine wpl_sl (n := 2) (pc' := 346) (ls' := [none, none, none, none, none, some (.int x5), some (.int x6), some (.int x7), some (.int x8), some (.int x9), some (.ref 1), none, none, none, none, some (.int x15), some (.int x16), some (.int x17), some (.int x18), some (.int x19), some (.int x20), none, some (.int x22), some (.int x23), some (.int x24), some (.int x25), some (.int x26), some (.int x27), some (.int x28), some (.int x29), some (.int x30), some (.int x31), some (.int x32), some (.int y0), none, none]) (st' := [.int y0]) rfl ?_
  have hm71 : ∀ m70, m70 = (if y0 = (0 : Int32) then (0 : Int32) else (if x15 = x23 then (if x16 = x24 then (if x17 = x25 then (if x18 = x26 then (if x19 = x27 then (if x20 = x28 then (1 : Int32) else (0 : Int32)) else (0 : Int32)) else (0 : Int32)) else (0 : Int32)) else (0 : Int32)) else (0 : Int32))) → wplI PP QQ none 0 lm0 396 [none, none, none, none, none, some (.int x5), some (.int x6), some (.int x7), some (.int x8), some (.int x9), some (.ref 1), none, none, none, none, some (.int x15), some (.int x16), some (.int x17), some (.int x18), some (.int x19), some (.int x20), none, some (.int x22), some (.int x23), some (.int x24), some (.int x25), some (.int x26), some (.int x27), some (.int x28), some (.int x29), some (.int x30), some (.int x31), some (.int x32), some (.int y0), none, none] [.int m70] (W1 s) Q := by
    intro m70 em70
    have h72 := h m70 em70
    exact wpl_lle (ls := [none, none, none, none, none, some (.int x5), some (.int x6), some (.int x7), some (.int x8), some (.int x9), some (.ref 1), none, none, none, none, none, none, none, none, none, none, none, some (.int x22), none, none, none, none, none, none, some (.int x29), some (.int x30), some (.int x31), some (.int x32), none, none, none]) ⟨rfl, rfl, rfl, rfl, rfl, rfl, rfl, rfl, rfl, rfl, rfl, trivial⟩ h72
  refine wpl_if (a := 395) (b := 349) rfl (by decide) rfl rfl (wpl_br (p := y0 = (0 : Int32)) ⟨fun hc73 => ?_, fun hc73 => ?_⟩)
  · refine wpl_sl (n := 1) (pc' := 396) (ls' := [none, none, none, none, none, some (.int x5), some (.int x6), some (.int x7), some (.int x8), some (.int x9), some (.ref 1), none, none, none, none, some (.int x15), some (.int x16), some (.int x17), some (.int x18), some (.int x19), some (.int x20), none, some (.int x22), some (.int x23), some (.int x24), some (.int x25), some (.int x26), some (.int x27), some (.int x28), some (.int x29), some (.int x30), some (.int x31), some (.int x32), some (.int y0), none, none]) (st' := [.int (0 : Int32)]) rfl ?_
    first | exact hm71 _ (by simp only [if_pos hc73]) | exact wpl_lle (by repeat (first | exact trivial | refine ⟨rfl, ?_⟩)) (hm71 _ (by simp only [if_pos hc73]))
  · refine wpl_sl (n := 2) (pc' := 353) (ls' := [none, none, none, none, none, some (.int x5), some (.int x6), some (.int x7), some (.int x8), some (.int x9), some (.ref 1), none, none, none, none, some (.int x15), some (.int x16), some (.int x17), some (.int x18), some (.int x19), some (.int x20), none, some (.int x22), some (.int x23), some (.int x24), some (.int x25), some (.int x26), some (.int x27), some (.int x28), some (.int x29), some (.int x30), some (.int x31), some (.int x32), some (.int y0), none, none]) (st' := [.int x23, .int x15]) rfl ?_
    refine wpl_icmp (a := 395) (b := 356) rfl (by decide) rfl rfl (wpl_br (p := x15 = x23) ⟨fun hc74 => ?_, fun hc74 => ?_⟩)
    · refine wpl_sl (n := 2) (pc' := 360) (ls' := [none, none, none, none, none, some (.int x5), some (.int x6), some (.int x7), some (.int x8), some (.int x9), some (.ref 1), none, none, none, none, some (.int x15), some (.int x16), some (.int x17), some (.int x18), some (.int x19), some (.int x20), none, some (.int x22), some (.int x23), some (.int x24), some (.int x25), some (.int x26), some (.int x27), some (.int x28), some (.int x29), some (.int x30), some (.int x31), some (.int x32), some (.int y0), none, none]) (st' := [.int x24, .int x16]) rfl ?_
      refine wpl_icmp (a := 395) (b := 363) rfl (by decide) rfl rfl (wpl_br (p := x16 = x24) ⟨fun hc75 => ?_, fun hc75 => ?_⟩)
      · refine wpl_sl (n := 2) (pc' := 367) (ls' := [none, none, none, none, none, some (.int x5), some (.int x6), some (.int x7), some (.int x8), some (.int x9), some (.ref 1), none, none, none, none, some (.int x15), some (.int x16), some (.int x17), some (.int x18), some (.int x19), some (.int x20), none, some (.int x22), some (.int x23), some (.int x24), some (.int x25), some (.int x26), some (.int x27), some (.int x28), some (.int x29), some (.int x30), some (.int x31), some (.int x32), some (.int y0), none, none]) (st' := [.int x25, .int x17]) rfl ?_
        refine wpl_icmp (a := 395) (b := 370) rfl (by decide) rfl rfl (wpl_br (p := x17 = x25) ⟨fun hc76 => ?_, fun hc76 => ?_⟩)
        · refine wpl_sl (n := 2) (pc' := 374) (ls' := [none, none, none, none, none, some (.int x5), some (.int x6), some (.int x7), some (.int x8), some (.int x9), some (.ref 1), none, none, none, none, some (.int x15), some (.int x16), some (.int x17), some (.int x18), some (.int x19), some (.int x20), none, some (.int x22), some (.int x23), some (.int x24), some (.int x25), some (.int x26), some (.int x27), some (.int x28), some (.int x29), some (.int x30), some (.int x31), some (.int x32), some (.int y0), none, none]) (st' := [.int x26, .int x18]) rfl ?_
          refine wpl_icmp (a := 395) (b := 377) rfl (by decide) rfl rfl (wpl_br (p := x18 = x26) ⟨fun hc77 => ?_, fun hc77 => ?_⟩)
          · refine wpl_sl (n := 2) (pc' := 381) (ls' := [none, none, none, none, none, some (.int x5), some (.int x6), some (.int x7), some (.int x8), some (.int x9), some (.ref 1), none, none, none, none, some (.int x15), some (.int x16), some (.int x17), some (.int x18), some (.int x19), some (.int x20), none, some (.int x22), some (.int x23), some (.int x24), some (.int x25), some (.int x26), some (.int x27), some (.int x28), some (.int x29), some (.int x30), some (.int x31), some (.int x32), some (.int y0), none, none]) (st' := [.int x27, .int x19]) rfl ?_
            refine wpl_icmp (a := 395) (b := 384) rfl (by decide) rfl rfl (wpl_br (p := x19 = x27) ⟨fun hc78 => ?_, fun hc78 => ?_⟩)
            · refine wpl_sl (n := 2) (pc' := 388) (ls' := [none, none, none, none, none, some (.int x5), some (.int x6), some (.int x7), some (.int x8), some (.int x9), some (.ref 1), none, none, none, none, some (.int x15), some (.int x16), some (.int x17), some (.int x18), some (.int x19), some (.int x20), none, some (.int x22), some (.int x23), some (.int x24), some (.int x25), some (.int x26), some (.int x27), some (.int x28), some (.int x29), some (.int x30), some (.int x31), some (.int x32), some (.int y0), none, none]) (st' := [.int x28, .int x20]) rfl ?_
              refine wpl_icmp (a := 395) (b := 391) rfl (by decide) rfl rfl (wpl_br (p := x20 = x28) ⟨fun hc79 => ?_, fun hc79 => ?_⟩)
              · refine wpl_sl (n := 2) (pc' := 396) (ls' := [none, none, none, none, none, some (.int x5), some (.int x6), some (.int x7), some (.int x8), some (.int x9), some (.ref 1), none, none, none, none, some (.int x15), some (.int x16), some (.int x17), some (.int x18), some (.int x19), some (.int x20), none, some (.int x22), some (.int x23), some (.int x24), some (.int x25), some (.int x26), some (.int x27), some (.int x28), some (.int x29), some (.int x30), some (.int x31), some (.int x32), some (.int y0), none, none]) (st' := [.int (1 : Int32)]) rfl ?_
                first | exact hm71 _ (by simp only [if_neg hc73, if_pos hc74, if_pos hc75, if_pos hc76, if_pos hc77, if_pos hc78, if_pos hc79]) | exact wpl_lle (by repeat (first | exact trivial | refine ⟨rfl, ?_⟩)) (hm71 _ (by simp only [if_neg hc73, if_pos hc74, if_pos hc75, if_pos hc76, if_pos hc77, if_pos hc78, if_pos hc79]))
              · refine wpl_sl (n := 1) (pc' := 396) (ls' := [none, none, none, none, none, some (.int x5), some (.int x6), some (.int x7), some (.int x8), some (.int x9), some (.ref 1), none, none, none, none, some (.int x15), some (.int x16), some (.int x17), some (.int x18), some (.int x19), some (.int x20), none, some (.int x22), some (.int x23), some (.int x24), some (.int x25), some (.int x26), some (.int x27), some (.int x28), some (.int x29), some (.int x30), some (.int x31), some (.int x32), some (.int y0), none, none]) (st' := [.int (0 : Int32)]) rfl ?_
                first | exact hm71 _ (by simp only [if_neg hc73, if_pos hc74, if_pos hc75, if_pos hc76, if_pos hc77, if_pos hc78, if_neg hc79]) | exact wpl_lle (by repeat (first | exact trivial | refine ⟨rfl, ?_⟩)) (hm71 _ (by simp only [if_neg hc73, if_pos hc74, if_pos hc75, if_pos hc76, if_pos hc77, if_pos hc78, if_neg hc79]))
            · refine wpl_sl (n := 1) (pc' := 396) (ls' := [none, none, none, none, none, some (.int x5), some (.int x6), some (.int x7), some (.int x8), some (.int x9), some (.ref 1), none, none, none, none, some (.int x15), some (.int x16), some (.int x17), some (.int x18), some (.int x19), some (.int x20), none, some (.int x22), some (.int x23), some (.int x24), some (.int x25), some (.int x26), some (.int x27), some (.int x28), some (.int x29), some (.int x30), some (.int x31), some (.int x32), some (.int y0), none, none]) (st' := [.int (0 : Int32)]) rfl ?_
              first | exact hm71 _ (by simp only [if_neg hc73, if_pos hc74, if_pos hc75, if_pos hc76, if_pos hc77, if_neg hc78]) | exact wpl_lle (by repeat (first | exact trivial | refine ⟨rfl, ?_⟩)) (hm71 _ (by simp only [if_neg hc73, if_pos hc74, if_pos hc75, if_pos hc76, if_pos hc77, if_neg hc78]))
          · refine wpl_sl (n := 1) (pc' := 396) (ls' := [none, none, none, none, none, some (.int x5), some (.int x6), some (.int x7), some (.int x8), some (.int x9), some (.ref 1), none, none, none, none, some (.int x15), some (.int x16), some (.int x17), some (.int x18), some (.int x19), some (.int x20), none, some (.int x22), some (.int x23), some (.int x24), some (.int x25), some (.int x26), some (.int x27), some (.int x28), some (.int x29), some (.int x30), some (.int x31), some (.int x32), some (.int y0), none, none]) (st' := [.int (0 : Int32)]) rfl ?_
            first | exact hm71 _ (by simp only [if_neg hc73, if_pos hc74, if_pos hc75, if_pos hc76, if_neg hc77]) | exact wpl_lle (by repeat (first | exact trivial | refine ⟨rfl, ?_⟩)) (hm71 _ (by simp only [if_neg hc73, if_pos hc74, if_pos hc75, if_pos hc76, if_neg hc77]))
        · refine wpl_sl (n := 1) (pc' := 396) (ls' := [none, none, none, none, none, some (.int x5), some (.int x6), some (.int x7), some (.int x8), some (.int x9), some (.ref 1), none, none, none, none, some (.int x15), some (.int x16), some (.int x17), some (.int x18), some (.int x19), some (.int x20), none, some (.int x22), some (.int x23), some (.int x24), some (.int x25), some (.int x26), some (.int x27), some (.int x28), some (.int x29), some (.int x30), some (.int x31), some (.int x32), some (.int y0), none, none]) (st' := [.int (0 : Int32)]) rfl ?_
          first | exact hm71 _ (by simp only [if_neg hc73, if_pos hc74, if_pos hc75, if_neg hc76]) | exact wpl_lle (by repeat (first | exact trivial | refine ⟨rfl, ?_⟩)) (hm71 _ (by simp only [if_neg hc73, if_pos hc74, if_pos hc75, if_neg hc76]))
      · refine wpl_sl (n := 1) (pc' := 396) (ls' := [none, none, none, none, none, some (.int x5), some (.int x6), some (.int x7), some (.int x8), some (.int x9), some (.ref 1), none, none, none, none, some (.int x15), some (.int x16), some (.int x17), some (.int x18), some (.int x19), some (.int x20), none, some (.int x22), some (.int x23), some (.int x24), some (.int x25), some (.int x26), some (.int x27), some (.int x28), some (.int x29), some (.int x30), some (.int x31), some (.int x32), some (.int y0), none, none]) (st' := [.int (0 : Int32)]) rfl ?_
        first | exact hm71 _ (by simp only [if_neg hc73, if_pos hc74, if_neg hc75]) | exact wpl_lle (by repeat (first | exact trivial | refine ⟨rfl, ?_⟩)) (hm71 _ (by simp only [if_neg hc73, if_pos hc74, if_neg hc75]))
    · refine wpl_sl (n := 1) (pc' := 396) (ls' := [none, none, none, none, none, some (.int x5), some (.int x6), some (.int x7), some (.int x8), some (.int x9), some (.ref 1), none, none, none, none, some (.int x15), some (.int x16), some (.int x17), some (.int x18), some (.int x19), some (.int x20), none, some (.int x22), some (.int x23), some (.int x24), some (.int x25), some (.int x26), some (.int x27), some (.int x28), some (.int x29), some (.int x30), some (.int x31), some (.int x32), some (.int y0), none, none]) (st' := [.int (0 : Int32)]) rfl ?_
      first | exact hm71 _ (by simp only [if_neg hc73, if_neg hc74]) | exact wpl_lle (by repeat (first | exact trivial | refine ⟨rfl, ?_⟩)) (hm71 _ (by simp only [if_neg hc73, if_neg hc74]))
theorem l0_396 (x5 : Int32) (x6 : Int32) (x7 : Int32) (x8 : Int32) (x9 : Int32) (x22 : Int32) (x29 : Int32) (x30 : Int32) (x31 : Int32) (x32 : Int32) (y0 : Int32)  (Q : Int32 → Wd → Prop) (h : ((y0 = (0 : Int32)) → wplI PP QQ none 0 lm0 420 [none, none, none, none, none, some (.int x5), some (.int x6), some (.int x7), some (.int x8), some (.int x9), some (.ref 1), none, none, none, none, none, none, none, none, none, none, none, some (.int x22), none, none, none, none, none, none, none, some (.int x30), some (.int x31), some (.int x32), none, none, none] [.int (0 : Int32)] (W1 s) Q) ∧ (¬ (y0 = (0 : Int32)) → calI PP 13 12 [.ref 0, .int (0 : Int32), .int (0 : Int32)] s (fun v84 s83 => ∀ m86, m86 = (if v84 = x29 then (1 : Int32) else (0 : Int32)) → (wplI PP QQ none 0 lm0 420 [none, none, none, none, none, some (.int x5), some (.int x6), some (.int x7), some (.int x8), some (.int x9), some (.ref 1), none, none, none, none, none, none, none, none, none, none, none, some (.int x22), none, none, none, none, none, none, none, some (.int x30), some (.int x31), some (.int x32), none, none, none] [.int m86] (W1 s83) Q)))) : wplI PP QQ none 0 lm0 396 [none, none, none, none, none, some (.int x5), some (.int x6), some (.int x7), some (.int x8), some (.int x9), some (.ref 1), none, none, none, none, none, none, none, none, none, none, none, some (.int x22), none, none, none, none, none, none, some (.int x29), some (.int x30), some (.int x31), some (.int x32), none, none, none] [.int y0] (W1 s) Q := by
  refine wpl_sl (n := 2) (pc' := 400) (ls' := [none, none, none, none, none, some (.int x5), some (.int x6), some (.int x7), some (.int x8), some (.int x9), some (.ref 1), none, none, none, none, none, none, none, none, none, none, none, some (.int x22), none, none, none, none, none, none, some (.int x29), some (.int x30), some (.int x31), some (.int x32), some (.int y0), none, none]) (st' := [.int y0]) rfl ?_
  refine wpl_if (a := 419) (b := 403) rfl (by decide) rfl rfl (wpl_br (p := y0 = (0 : Int32)) ⟨fun hc80 => ?_, fun hc80 => ?_⟩)
  · have h81 := h.1 hc80
    refine wpl_sl (n := 1) (pc' := 420) (ls' := [none, none, none, none, none, some (.int x5), some (.int x6), some (.int x7), some (.int x8), some (.int x9), some (.ref 1), none, none, none, none, none, none, none, none, none, none, none, some (.int x22), none, none, none, none, none, none, some (.int x29), some (.int x30), some (.int x31), some (.int x32), some (.int y0), none, none]) (st' := [.int (0 : Int32)]) rfl ?_
    exact wpl_lle (ls := [none, none, none, none, none, some (.int x5), some (.int x6), some (.int x7), some (.int x8), some (.int x9), some (.ref 1), none, none, none, none, none, none, none, none, none, none, none, some (.int x22), none, none, none, none, none, none, none, some (.int x30), some (.int x31), some (.int x32), none, none, none]) ⟨rfl, rfl, rfl, rfl, rfl, rfl, rfl, rfl, rfl, rfl, trivial⟩ h81
  · have h82 := h.2 hc80
    refine wpl_sl (n := 3) (pc' := 407) (ls' := [none, none, none, none, none, some (.int x5), some (.int x6), some (.int x7), some (.int x8), some (.int x9), some (.ref 1), none, none, none, none, none, none, none, none, none, none, none, some (.int x22), none, none, none, none, none, none, some (.int x29), some (.int x30), some (.int x31), some (.int x32), some (.int y0), none, none]) (st' := [.int (0 : Int32), .int (0 : Int32), .ref 1]) rfl ?_
    refine wpl_v1 (m' := 13) (me' := cm13) (as := [.int (0 : Int32), .int (0 : Int32)]) (r := []) rfl rfl rfl rfl rfl ⟨by decide, (by first | decide | exact Nat.le_of_ble_eq_true rfl), (by first | decide | exact Nat.le_of_ble_eq_true rfl), rfl⟩ (cal_I (calI.mono h82 fun v84 s83 h85 => ?_))
    refine wpl_sl (n := 1) (pc' := 412) (ls' := [none, none, none, none, none, some (.int x5), some (.int x6), some (.int x7), some (.int x8), some (.int x9), some (.ref 1), none, none, none, none, none, none, none, none, none, none, none, some (.int x22), none, none, none, none, none, none, some (.int x29), some (.int x30), some (.int x31), some (.int x32), some (.int y0), none, none]) (st' := [.int x29, .int v84]) rfl ?_
    have hm87 : ∀ m86, m86 = (if v84 = x29 then (1 : Int32) else (0 : Int32)) → wplI PP QQ none 0 lm0 420 [none, none, none, none, none, some (.int x5), some (.int x6), some (.int x7), some (.int x8), some (.int x9), some (.ref 1), none, none, none, none, none, none, none, none, none, none, none, some (.int x22), none, none, none, none, none, none, some (.int x29), some (.int x30), some (.int x31), some (.int x32), some (.int y0), none, none] [.int m86] (W1 s83) Q := by
      intro m86 em86
      have h88 := h85 m86 em86
      exact wpl_lle (ls := [none, none, none, none, none, some (.int x5), some (.int x6), some (.int x7), some (.int x8), some (.int x9), some (.ref 1), none, none, none, none, none, none, none, none, none, none, none, some (.int x22), none, none, none, none, none, none, none, some (.int x30), some (.int x31), some (.int x32), none, none, none]) ⟨rfl, rfl, rfl, rfl, rfl, rfl, rfl, rfl, rfl, rfl, trivial⟩ h88
    refine wpl_icmp (a := 419) (b := 415) rfl (by decide) rfl rfl (wpl_br (p := v84 = x29) ⟨fun hc89 => ?_, fun hc89 => ?_⟩)
    · refine wpl_sl (n := 2) (pc' := 420) (ls' := [none, none, none, none, none, some (.int x5), some (.int x6), some (.int x7), some (.int x8), some (.int x9), some (.ref 1), none, none, none, none, none, none, none, none, none, none, none, some (.int x22), none, none, none, none, none, none, some (.int x29), some (.int x30), some (.int x31), some (.int x32), some (.int y0), none, none]) (st' := [.int (1 : Int32)]) rfl ?_
      first | exact hm87 _ (by simp only [if_pos hc89]) | exact wpl_lle (by repeat (first | exact trivial | refine ⟨rfl, ?_⟩)) (hm87 _ (by simp only [if_pos hc89]))
    · refine wpl_sl (n := 1) (pc' := 420) (ls' := [none, none, none, none, none, some (.int x5), some (.int x6), some (.int x7), some (.int x8), some (.int x9), some (.ref 1), none, none, none, none, none, none, none, none, none, none, none, some (.int x22), none, none, none, none, none, none, some (.int x29), some (.int x30), some (.int x31), some (.int x32), some (.int y0), none, none]) (st' := [.int (0 : Int32)]) rfl ?_
      first | exact hm87 _ (by simp only [if_neg hc89]) | exact wpl_lle (by repeat (first | exact trivial | refine ⟨rfl, ?_⟩)) (hm87 _ (by simp only [if_neg hc89]))
theorem l0_420 (x5 : Int32) (x6 : Int32) (x7 : Int32) (x8 : Int32) (x9 : Int32) (x22 : Int32) (x30 : Int32) (x31 : Int32) (x32 : Int32) (y0 : Int32)  (Q : Int32 → Wd → Prop) (h : ((y0 = (0 : Int32)) → wplI PP QQ none 0 lm0 444 [none, none, none, none, none, some (.int x5), some (.int x6), some (.int x7), some (.int x8), some (.int x9), some (.ref 1), none, none, none, none, none, none, none, none, none, none, none, some (.int x22), none, none, none, none, none, none, none, none, some (.int x31), some (.int x32), none, none, none] [.int (0 : Int32)] (W1 s) Q) ∧ (¬ (y0 = (0 : Int32)) → calI PP 13 12 [.ref 0, .int (0 : Int32), .int (1 : Int32)] s (fun v94 s93 => ∀ m96, m96 = (if v94 = x30 then (1 : Int32) else (0 : Int32)) → (wplI PP QQ none 0 lm0 444 [none, none, none, none, none, some (.int x5), some (.int x6), some (.int x7), some (.int x8), some (.int x9), some (.ref 1), none, none, none, none, none, none, none, none, none, none, none, some (.int x22), none, none, none, none, none, none, none, none, some (.int x31), some (.int x32), none, none, none] [.int m96] (W1 s93) Q)))) : wplI PP QQ none 0 lm0 420 [none, none, none, none, none, some (.int x5), some (.int x6), some (.int x7), some (.int x8), some (.int x9), some (.ref 1), none, none, none, none, none, none, none, none, none, none, none, some (.int x22), none, none, none, none, none, none, none, some (.int x30), some (.int x31), some (.int x32), none, none, none] [.int y0] (W1 s) Q := by
  refine wpl_sl (n := 2) (pc' := 424) (ls' := [none, none, none, none, none, some (.int x5), some (.int x6), some (.int x7), some (.int x8), some (.int x9), some (.ref 1), none, none, none, none, none, none, none, none, none, none, none, some (.int x22), none, none, none, none, none, none, none, some (.int x30), some (.int x31), some (.int x32), some (.int y0), none, none]) (st' := [.int y0]) rfl ?_
  refine wpl_if (a := 443) (b := 427) rfl (by decide) rfl rfl (wpl_br (p := y0 = (0 : Int32)) ⟨fun hc90 => ?_, fun hc90 => ?_⟩)
  · have h91 := h.1 hc90
    refine wpl_sl (n := 1) (pc' := 444) (ls' := [none, none, none, none, none, some (.int x5), some (.int x6), some (.int x7), some (.int x8), some (.int x9), some (.ref 1), none, none, none, none, none, none, none, none, none, none, none, some (.int x22), none, none, none, none, none, none, none, some (.int x30), some (.int x31), some (.int x32), some (.int y0), none, none]) (st' := [.int (0 : Int32)]) rfl ?_
    exact wpl_lle (ls := [none, none, none, none, none, some (.int x5), some (.int x6), some (.int x7), some (.int x8), some (.int x9), some (.ref 1), none, none, none, none, none, none, none, none, none, none, none, some (.int x22), none, none, none, none, none, none, none, none, some (.int x31), some (.int x32), none, none, none]) ⟨rfl, rfl, rfl, rfl, rfl, rfl, rfl, rfl, rfl, trivial⟩ h91
  · have h92 := h.2 hc90
    refine wpl_sl (n := 3) (pc' := 431) (ls' := [none, none, none, none, none, some (.int x5), some (.int x6), some (.int x7), some (.int x8), some (.int x9), some (.ref 1), none, none, none, none, none, none, none, none, none, none, none, some (.int x22), none, none, none, none, none, none, none, some (.int x30), some (.int x31), some (.int x32), some (.int y0), none, none]) (st' := [.int (1 : Int32), .int (0 : Int32), .ref 1]) rfl ?_
    refine wpl_v1 (m' := 13) (me' := cm13) (as := [.int (0 : Int32), .int (1 : Int32)]) (r := []) rfl rfl rfl rfl rfl ⟨by decide, (by first | decide | exact Nat.le_of_ble_eq_true rfl), (by first | decide | exact Nat.le_of_ble_eq_true rfl), rfl⟩ (cal_I (calI.mono h92 fun v94 s93 h95 => ?_))
    refine wpl_sl (n := 1) (pc' := 436) (ls' := [none, none, none, none, none, some (.int x5), some (.int x6), some (.int x7), some (.int x8), some (.int x9), some (.ref 1), none, none, none, none, none, none, none, none, none, none, none, some (.int x22), none, none, none, none, none, none, none, some (.int x30), some (.int x31), some (.int x32), some (.int y0), none, none]) (st' := [.int x30, .int v94]) rfl ?_
    have hm97 : ∀ m96, m96 = (if v94 = x30 then (1 : Int32) else (0 : Int32)) → wplI PP QQ none 0 lm0 444 [none, none, none, none, none, some (.int x5), some (.int x6), some (.int x7), some (.int x8), some (.int x9), some (.ref 1), none, none, none, none, none, none, none, none, none, none, none, some (.int x22), none, none, none, none, none, none, none, some (.int x30), some (.int x31), some (.int x32), some (.int y0), none, none] [.int m96] (W1 s93) Q := by
      intro m96 em96
      have h98 := h95 m96 em96
      exact wpl_lle (ls := [none, none, none, none, none, some (.int x5), some (.int x6), some (.int x7), some (.int x8), some (.int x9), some (.ref 1), none, none, none, none, none, none, none, none, none, none, none, some (.int x22), none, none, none, none, none, none, none, none, some (.int x31), some (.int x32), none, none, none]) ⟨rfl, rfl, rfl, rfl, rfl, rfl, rfl, rfl, rfl, trivial⟩ h98
    refine wpl_icmp (a := 443) (b := 439) rfl (by decide) rfl rfl (wpl_br (p := v94 = x30) ⟨fun hc99 => ?_, fun hc99 => ?_⟩)
    · refine wpl_sl (n := 2) (pc' := 444) (ls' := [none, none, none, none, none, some (.int x5), some (.int x6), some (.int x7), some (.int x8), some (.int x9), some (.ref 1), none, none, none, none, none, none, none, none, none, none, none, some (.int x22), none, none, none, none, none, none, none, some (.int x30), some (.int x31), some (.int x32), some (.int y0), none, none]) (st' := [.int (1 : Int32)]) rfl ?_
      first | exact hm97 _ (by simp only [if_pos hc99]) | exact wpl_lle (by repeat (first | exact trivial | refine ⟨rfl, ?_⟩)) (hm97 _ (by simp only [if_pos hc99]))
    · refine wpl_sl (n := 1) (pc' := 444) (ls' := [none, none, none, none, none, some (.int x5), some (.int x6), some (.int x7), some (.int x8), some (.int x9), some (.ref 1), none, none, none, none, none, none, none, none, none, none, none, some (.int x22), none, none, none, none, none, none, none, some (.int x30), some (.int x31), some (.int x32), some (.int y0), none, none]) (st' := [.int (0 : Int32)]) rfl ?_
      first | exact hm97 _ (by simp only [if_neg hc99]) | exact wpl_lle (by repeat (first | exact trivial | refine ⟨rfl, ?_⟩)) (hm97 _ (by simp only [if_neg hc99]))
theorem l0_444 (x5 : Int32) (x6 : Int32) (x7 : Int32) (x8 : Int32) (x9 : Int32) (x22 : Int32) (x31 : Int32) (x32 : Int32) (y0 : Int32)  (Q : Int32 → Wd → Prop) (h : ((y0 = (0 : Int32)) → wplI PP QQ none 0 lm0 468 [none, none, none, none, none, some (.int x5), some (.int x6), some (.int x7), some (.int x8), some (.int x9), some (.ref 1), none, none, none, none, none, none, none, none, none, none, none, some (.int x22), none, none, none, none, none, none, none, none, none, some (.int x32), none, none, none] [.int (0 : Int32)] (W1 s) Q) ∧ (¬ (y0 = (0 : Int32)) → calI PP 14 12 [.ref 0, .int (0 : Int32), .int (0 : Int32)] s (fun v104 s103 => ∀ m106, m106 = (if v104 = x31 then (1 : Int32) else (0 : Int32)) → (wplI PP QQ none 0 lm0 468 [none, none, none, none, none, some (.int x5), some (.int x6), some (.int x7), some (.int x8), some (.int x9), some (.ref 1), none, none, none, none, none, none, none, none, none, none, none, some (.int x22), none, none, none, none, none, none, none, none, none, some (.int x32), none, none, none] [.int m106] (W1 s103) Q)))) : wplI PP QQ none 0 lm0 444 [none, none, none, none, none, some (.int x5), some (.int x6), some (.int x7), some (.int x8), some (.int x9), some (.ref 1), none, none, none, none, none, none, none, none, none, none, none, some (.int x22), none, none, none, none, none, none, none, none, some (.int x31), some (.int x32), none, none, none] [.int y0] (W1 s) Q := by
  refine wpl_sl (n := 2) (pc' := 448) (ls' := [none, none, none, none, none, some (.int x5), some (.int x6), some (.int x7), some (.int x8), some (.int x9), some (.ref 1), none, none, none, none, none, none, none, none, none, none, none, some (.int x22), none, none, none, none, none, none, none, none, some (.int x31), some (.int x32), some (.int y0), none, none]) (st' := [.int y0]) rfl ?_
  refine wpl_if (a := 467) (b := 451) rfl (by decide) rfl rfl (wpl_br (p := y0 = (0 : Int32)) ⟨fun hc100 => ?_, fun hc100 => ?_⟩)
  · have h101 := h.1 hc100
    refine wpl_sl (n := 1) (pc' := 468) (ls' := [none, none, none, none, none, some (.int x5), some (.int x6), some (.int x7), some (.int x8), some (.int x9), some (.ref 1), none, none, none, none, none, none, none, none, none, none, none, some (.int x22), none, none, none, none, none, none, none, none, some (.int x31), some (.int x32), some (.int y0), none, none]) (st' := [.int (0 : Int32)]) rfl ?_
    exact wpl_lle (ls := [none, none, none, none, none, some (.int x5), some (.int x6), some (.int x7), some (.int x8), some (.int x9), some (.ref 1), none, none, none, none, none, none, none, none, none, none, none, some (.int x22), none, none, none, none, none, none, none, none, none, some (.int x32), none, none, none]) ⟨rfl, rfl, rfl, rfl, rfl, rfl, rfl, rfl, trivial⟩ h101
  · have h102 := h.2 hc100
    refine wpl_sl (n := 3) (pc' := 455) (ls' := [none, none, none, none, none, some (.int x5), some (.int x6), some (.int x7), some (.int x8), some (.int x9), some (.ref 1), none, none, none, none, none, none, none, none, none, none, none, some (.int x22), none, none, none, none, none, none, none, none, some (.int x31), some (.int x32), some (.int y0), none, none]) (st' := [.int (0 : Int32), .int (0 : Int32), .ref 1]) rfl ?_
    refine wpl_v1 (m' := 14) (me' := cm14) (as := [.int (0 : Int32), .int (0 : Int32)]) (r := []) rfl rfl rfl rfl rfl ⟨by decide, (by first | decide | exact Nat.le_of_ble_eq_true rfl), (by first | decide | exact Nat.le_of_ble_eq_true rfl), rfl⟩ (cal_I (calI.mono h102 fun v104 s103 h105 => ?_))
    refine wpl_sl (n := 1) (pc' := 460) (ls' := [none, none, none, none, none, some (.int x5), some (.int x6), some (.int x7), some (.int x8), some (.int x9), some (.ref 1), none, none, none, none, none, none, none, none, none, none, none, some (.int x22), none, none, none, none, none, none, none, none, some (.int x31), some (.int x32), some (.int y0), none, none]) (st' := [.int x31, .int v104]) rfl ?_
    have hm107 : ∀ m106, m106 = (if v104 = x31 then (1 : Int32) else (0 : Int32)) → wplI PP QQ none 0 lm0 468 [none, none, none, none, none, some (.int x5), some (.int x6), some (.int x7), some (.int x8), some (.int x9), some (.ref 1), none, none, none, none, none, none, none, none, none, none, none, some (.int x22), none, none, none, none, none, none, none, none, some (.int x31), some (.int x32), some (.int y0), none, none] [.int m106] (W1 s103) Q := by
      intro m106 em106
      have h108 := h105 m106 em106
      exact wpl_lle (ls := [none, none, none, none, none, some (.int x5), some (.int x6), some (.int x7), some (.int x8), some (.int x9), some (.ref 1), none, none, none, none, none, none, none, none, none, none, none, some (.int x22), none, none, none, none, none, none, none, none, none, some (.int x32), none, none, none]) ⟨rfl, rfl, rfl, rfl, rfl, rfl, rfl, rfl, trivial⟩ h108
    refine wpl_icmp (a := 467) (b := 463) rfl (by decide) rfl rfl (wpl_br (p := v104 = x31) ⟨fun hc109 => ?_, fun hc109 => ?_⟩)
    · refine wpl_sl (n := 2) (pc' := 468) (ls' := [none, none, none, none, none, some (.int x5), some (.int x6), some (.int x7), some (.int x8), some (.int x9), some (.ref 1), none, none, none, none, none, none, none, none, none, none, none, some (.int x22), none, none, none, none, none, none, none, none, some (.int x31), some (.int x32), some (.int y0), none, none]) (st' := [.int (1 : Int32)]) rfl ?_
      first | exact hm107 _ (by simp only [if_pos hc109]) | exact wpl_lle (by repeat (first | exact trivial | refine ⟨rfl, ?_⟩)) (hm107 _ (by simp only [if_pos hc109]))
    · refine wpl_sl (n := 1) (pc' := 468) (ls' := [none, none, none, none, none, some (.int x5), some (.int x6), some (.int x7), some (.int x8), some (.int x9), some (.ref 1), none, none, none, none, none, none, none, none, none, none, none, some (.int x22), none, none, none, none, none, none, none, none, some (.int x31), some (.int x32), some (.int y0), none, none]) (st' := [.int (0 : Int32)]) rfl ?_
      first | exact hm107 _ (by simp only [if_neg hc109]) | exact wpl_lle (by repeat (first | exact trivial | refine ⟨rfl, ?_⟩)) (hm107 _ (by simp only [if_neg hc109]))
theorem l0_468 (x5 : Int32) (x6 : Int32) (x7 : Int32) (x8 : Int32) (x9 : Int32) (x22 : Int32) (x32 : Int32) (y0 : Int32)  (Q : Int32 → Wd → Prop) (h : ((y0 = (0 : Int32)) → wplI PP QQ none 0 lm0 492 [none, none, none, none, none, some (.int x5), some (.int x6), some (.int x7), some (.int x8), some (.int x9), some (.ref 1), none, none, none, none, none, none, none, none, none, none, none, some (.int x22), none, none, none, none, none, none, none, none, none, none, none, none, none] [.int (0 : Int32)] (W1 s) Q) ∧ (¬ (y0 = (0 : Int32)) → calI PP 14 12 [.ref 0, .int (0 : Int32), .int (1 : Int32)] s (fun v114 s113 => ∀ m116, m116 = (if v114 = x32 then (1 : Int32) else (0 : Int32)) → (wplI PP QQ none 0 lm0 492 [none, none, none, none, none, some (.int x5), some (.int x6), some (.int x7), some (.int x8), some (.int x9), some (.ref 1), none, none, none, none, none, none, none, none, none, none, none, some (.int x22), none, none, none, none, none, none, none, none, none, none, none, none, none] [.int m116] (W1 s113) Q)))) : wplI PP QQ none 0 lm0 468 [none, none, none, none, none, some (.int x5), some (.int x6), some (.int x7), some (.int x8), some (.int x9), some (.ref 1), none, none, none, none, none, none, none, none, none, none, none, some (.int x22), none, none, none, none, none, none, none, none, none, some (.int x32), none, none, none] [.int y0] (W1 s) Q := by
  refine wpl_sl (n := 2) (pc' := 472) (ls' := [none, none, none, none, none, some (.int x5), some (.int x6), some (.int x7), some (.int x8), some (.int x9), some (.ref 1), none, none, none, none, none, none, none, none, none, none, none, some (.int x22), none, none, none, none, none, none, none, none, none, some (.int x32), some (.int y0), none, none]) (st' := [.int y0]) rfl ?_
  refine wpl_if (a := 491) (b := 475) rfl (by decide) rfl rfl (wpl_br (p := y0 = (0 : Int32)) ⟨fun hc110 => ?_, fun hc110 => ?_⟩)
  · have h111 := h.1 hc110
    refine wpl_sl (n := 1) (pc' := 492) (ls' := [none, none, none, none, none, some (.int x5), some (.int x6), some (.int x7), some (.int x8), some (.int x9), some (.ref 1), none, none, none, none, none, none, none, none, none, none, none, some (.int x22), none, none, none, none, none, none, none, none, none, some (.int x32), some (.int y0), none, none]) (st' := [.int (0 : Int32)]) rfl ?_
    exact wpl_lle (ls := [none, none, none, none, none, some (.int x5), some (.int x6), some (.int x7), some (.int x8), some (.int x9), some (.ref 1), none, none, none, none, none, none, none, none, none, none, none, some (.int x22), none, none, none, none, none, none, none, none, none, none, none, none, none]) ⟨rfl, rfl, rfl, rfl, rfl, rfl, rfl, trivial⟩ h111
  · have h112 := h.2 hc110
    refine wpl_sl (n := 3) (pc' := 479) (ls' := [none, none, none, none, none, some (.int x5), some (.int x6), some (.int x7), some (.int x8), some (.int x9), some (.ref 1), none, none, none, none, none, none, none, none, none, none, none, some (.int x22), none, none, none, none, none, none, none, none, none, some (.int x32), some (.int y0), none, none]) (st' := [.int (1 : Int32), .int (0 : Int32), .ref 1]) rfl ?_
    refine wpl_v1 (m' := 14) (me' := cm14) (as := [.int (0 : Int32), .int (1 : Int32)]) (r := []) rfl rfl rfl rfl rfl ⟨by decide, (by first | decide | exact Nat.le_of_ble_eq_true rfl), (by first | decide | exact Nat.le_of_ble_eq_true rfl), rfl⟩ (cal_I (calI.mono h112 fun v114 s113 h115 => ?_))
    refine wpl_sl (n := 1) (pc' := 484) (ls' := [none, none, none, none, none, some (.int x5), some (.int x6), some (.int x7), some (.int x8), some (.int x9), some (.ref 1), none, none, none, none, none, none, none, none, none, none, none, some (.int x22), none, none, none, none, none, none, none, none, none, some (.int x32), some (.int y0), none, none]) (st' := [.int x32, .int v114]) rfl ?_
    have hm117 : ∀ m116, m116 = (if v114 = x32 then (1 : Int32) else (0 : Int32)) → wplI PP QQ none 0 lm0 492 [none, none, none, none, none, some (.int x5), some (.int x6), some (.int x7), some (.int x8), some (.int x9), some (.ref 1), none, none, none, none, none, none, none, none, none, none, none, some (.int x22), none, none, none, none, none, none, none, none, none, some (.int x32), some (.int y0), none, none] [.int m116] (W1 s113) Q := by
      intro m116 em116
      have h118 := h115 m116 em116
      exact wpl_lle (ls := [none, none, none, none, none, some (.int x5), some (.int x6), some (.int x7), some (.int x8), some (.int x9), some (.ref 1), none, none, none, none, none, none, none, none, none, none, none, some (.int x22), none, none, none, none, none, none, none, none, none, none, none, none, none]) ⟨rfl, rfl, rfl, rfl, rfl, rfl, rfl, trivial⟩ h118
    refine wpl_icmp (a := 491) (b := 487) rfl (by decide) rfl rfl (wpl_br (p := v114 = x32) ⟨fun hc119 => ?_, fun hc119 => ?_⟩)
    · refine wpl_sl (n := 2) (pc' := 492) (ls' := [none, none, none, none, none, some (.int x5), some (.int x6), some (.int x7), some (.int x8), some (.int x9), some (.ref 1), none, none, none, none, none, none, none, none, none, none, none, some (.int x22), none, none, none, none, none, none, none, none, none, some (.int x32), some (.int y0), none, none]) (st' := [.int (1 : Int32)]) rfl ?_
      first | exact hm117 _ (by simp only [if_pos hc119]) | exact wpl_lle (by repeat (first | exact trivial | refine ⟨rfl, ?_⟩)) (hm117 _ (by simp only [if_pos hc119]))
    · refine wpl_sl (n := 1) (pc' := 492) (ls' := [none, none, none, none, none, some (.int x5), some (.int x6), some (.int x7), some (.int x8), some (.int x9), some (.ref 1), none, none, none, none, none, none, none, none, none, none, none, some (.int x22), none, none, none, none, none, none, none, none, none, some (.int x32), some (.int y0), none, none]) (st' := [.int (0 : Int32)]) rfl ?_
      first | exact hm117 _ (by simp only [if_neg hc119]) | exact wpl_lle (by repeat (first | exact trivial | refine ⟨rfl, ?_⟩)) (hm117 _ (by simp only [if_neg hc119]))
theorem l0_492 (x5 : Int32) (x6 : Int32) (x7 : Int32) (x8 : Int32) (x9 : Int32) (x22 : Int32) (y0 : Int32)  (Q : Int32 → Wd → Prop) (h : ((y0 = (0 : Int32)) → wplI PP QQ none 0 lm0 523 [none, none, none, none, none, some (.int x5), some (.int x6), some (.int x7), some (.int x8), some (.int x9), some (.ref 1), none, none, none, none, none, none, none, none, none, none, none, some (.int x22), none, none, none, none, none, none, none, none, none, none, none, none, none] [.int (0 : Int32)] (W1 s) Q) ∧ (¬ (y0 = (0 : Int32)) → calI PP 11 12 [.ref 0, .int (0 : Int32)] s (fun v124 s123 => ∀ m126, m126 = (if x22 = (0 : Int32) then (5 : Int32) else (4 : Int32)) → (∀ m129, m129 = (if v124 = m126 then (1 : Int32) else (0 : Int32)) → (wplI PP QQ none 0 lm0 523 [none, none, none, none, none, some (.int x5), some (.int x6), some (.int x7), some (.int x8), some (.int x9), some (.ref 1), none, none, none, none, none, none, none, none, none, none, none, some (.int x22), none, none, none, none, none, none, none, none, none, none, none, none, none] [.int m129] (W1 s123) Q))))) : wplI PP QQ none 0 lm0 492 [none, none, none, none, none, some (.int x5), some (.int x6), some (.int x7), some (.int x8), some (.int x9), some (.ref 1), none, none, none, none, none, none, none, none, none, none, none, some (.int x22), none, none, none, none, none, none, none, none, none, none, none, none, none] [.int y0] (W1 s) Q := by
  refine wpl_sl (n := 2) (pc' := 496) (ls' := [none, none, none, none, none, some (.int x5), some (.int x6), some (.int x7), some (.int x8), some (.int x9), some (.ref 1), none, none, none, none, none, none, none, none, none, none, none, some (.int x22), none, none, none, none, none, none, none, none, none, none, some (.int y0), none, none]) (st' := [.int y0]) rfl ?_
  refine wpl_if (a := 522) (b := 499) rfl (by decide) rfl rfl (wpl_br (p := y0 = (0 : Int32)) ⟨fun hc120 => ?_, fun hc120 => ?_⟩)
  · have h121 := h.1 hc120
    refine wpl_sl (n := 1) (pc' := 523) (ls' := [none, none, none, none, none, some (.int x5), some (.int x6), some (.int x7), some (.int x8), some (.int x9), some (.ref 1), none, none, none, none, none, none, none, none, none, none, none, some (.int x22), none, none, none, none, none, none, none, none, none, none, some (.int y0), none, none]) (st' := [.int (0 : Int32)]) rfl ?_
    exact wpl_lle (ls := [none, none, none, none, none, some (.int x5), some (.int x6), some (.int x7), some (.int x8), some (.int x9), some (.ref 1), none, none, none, none, none, none, none, none, none, none, none, some (.int x22), none, none, none, none, none, none, none, none, none, none, none, none, none]) ⟨rfl, rfl, rfl, rfl, rfl, rfl, rfl, trivial⟩ h121
  · have h122 := h.2 hc120
    refine wpl_sl (n := 2) (pc' := 502) (ls' := [none, none, none, none, none, some (.int x5), some (.int x6), some (.int x7), some (.int x8), some (.int x9), some (.ref 1), none, none, none, none, none, none, none, none, none, none, none, some (.int x22), none, none, none, none, none, none, none, none, none, none, some (.int y0), none, none]) (st' := [.int (0 : Int32), .ref 1]) rfl ?_
    refine wpl_v1 (m' := 11) (me' := cm11) (as := [.int (0 : Int32)]) (r := []) rfl rfl rfl rfl rfl ⟨by decide, (by first | decide | exact Nat.le_of_ble_eq_true rfl), (by first | decide | exact Nat.le_of_ble_eq_true rfl), rfl⟩ (cal_I (calI.mono h122 fun v124 s123 h125 => ?_))
    refine wpl_sl (n := 1) (pc' := 507) (ls' := [none, none, none, none, none, some (.int x5), some (.int x6), some (.int x7), some (.int x8), some (.int x9), some (.ref 1), none, none, none, none, none, none, none, none, none, none, none, some (.int x22), none, none, none, none, none, none, none, none, none, none, some (.int y0), none, none]) (st' := [.int x22, .int v124]) rfl ?_
    have hm127 : ∀ m126, m126 = (if x22 = (0 : Int32) then (5 : Int32) else (4 : Int32)) → wplI PP QQ none 0 lm0 515 [none, none, none, none, none, some (.int x5), some (.int x6), some (.int x7), some (.int x8), some (.int x9), some (.ref 1), none, none, none, none, none, none, none, none, none, none, none, some (.int x22), none, none, none, none, none, none, none, none, none, none, some (.int y0), none, none] [.int m126, .int v124] (W1 s123) Q := by
      intro m126 em126
      have h128 := h125 m126 em126
      have hm130 : ∀ m129, m129 = (if v124 = m126 then (1 : Int32) else (0 : Int32)) → wplI PP QQ none 0 lm0 523 [none, none, none, none, none, some (.int x5), some (.int x6), some (.int x7), some (.int x8), some (.int x9), some (.ref 1), none, none, none, none, none, none, none, none, none, none, none, some (.int x22), none, none, none, none, none, none, none, none, none, none, some (.int y0), none, none] [.int m129] (W1 s123) Q := by
        intro m129 em129
        have h131 := h128 m129 em129
        exact wpl_lle (ls := [none, none, none, none, none, some (.int x5), some (.int x6), some (.int x7), some (.int x8), some (.int x9), some (.ref 1), none, none, none, none, none, none, none, none, none, none, none, some (.int x22), none, none, none, none, none, none, none, none, none, none, none, none, none]) ⟨rfl, rfl, rfl, rfl, rfl, rfl, rfl, trivial⟩ h131
      refine wpl_icmp (a := 522) (b := 518) rfl (by decide) rfl rfl (wpl_br (p := v124 = m126) ⟨fun hc132 => ?_, fun hc132 => ?_⟩)
      · refine wpl_sl (n := 2) (pc' := 523) (ls' := [none, none, none, none, none, some (.int x5), some (.int x6), some (.int x7), some (.int x8), some (.int x9), some (.ref 1), none, none, none, none, none, none, none, none, none, none, none, some (.int x22), none, none, none, none, none, none, none, none, none, none, some (.int y0), none, none]) (st' := [.int (1 : Int32)]) rfl ?_
        first | exact hm130 _ (by simp only [if_pos hc132]) | exact wpl_lle (by repeat (first | exact trivial | refine ⟨rfl, ?_⟩)) (hm130 _ (by simp only [if_pos hc132]))
      · refine wpl_sl (n := 1) (pc' := 523) (ls' := [none, none, none, none, none, some (.int x5), some (.int x6), some (.int x7), some (.int x8), some (.int x9), some (.ref 1), none, none, none, none, none, none, none, none, none, none, none, some (.int x22), none, none, none, none, none, none, none, none, none, none, some (.int y0), none, none]) (st' := [.int (0 : Int32)]) rfl ?_
        first | exact hm130 _ (by simp only [if_neg hc132]) | exact wpl_lle (by repeat (first | exact trivial | refine ⟨rfl, ?_⟩)) (hm130 _ (by simp only [if_neg hc132]))
    refine wpl_if (a := 514) (b := 510) rfl (by decide) rfl rfl (wpl_br (p := x22 = (0 : Int32)) ⟨fun hc133 => ?_, fun hc133 => ?_⟩)
    · refine wpl_sl (n := 1) (pc' := 515) (ls' := [none, none, none, none, none, some (.int x5), some (.int x6), some (.int x7), some (.int x8), some (.int x9), some (.ref 1), none, none, none, none, none, none, none, none, none, none, none, some (.int x22), none, none, none, none, none, none, none, none, none, none, some (.int y0), none, none]) (st' := [.int (5 : Int32), .int v124]) rfl ?_
      first | exact hm127 _ (by simp only [if_pos hc133]) | exact wpl_lle (by repeat (first | exact trivial | refine ⟨rfl, ?_⟩)) (hm127 _ (by simp only [if_pos hc133]))
    · refine wpl_sl (n := 2) (pc' := 515) (ls' := [none, none, none, none, none, some (.int x5), some (.int x6), some (.int x7), some (.int x8), some (.int x9), some (.ref 1), none, none, none, none, none, none, none, none, none, none, none, some (.int x22), none, none, none, none, none, none, none, none, none, none, some (.int y0), none, none]) (st' := [.int (4 : Int32), .int v124]) rfl ?_
      first | exact hm127 _ (by simp only [if_neg hc133]) | exact wpl_lle (by repeat (first | exact trivial | refine ⟨rfl, ?_⟩)) (hm127 _ (by simp only [if_neg hc133]))
theorem l0_523 (x5 : Int32) (x6 : Int32) (x7 : Int32) (x8 : Int32) (x9 : Int32) (x22 : Int32) (y0 : Int32)  (Q : Int32 → Wd → Prop) (h : wplI PP QQ none 0 lm0 528 [none, none, none, none, none, some (.int x5), some (.int x6), some (.int x7), some (.int x8), some (.int x9), some (.ref 1), none, none, none, none, none, none, none, none, none, none, none, some (.int x22), none, none, none, none, none, none, none, none, none, none, some (.int y0), some (.int (0 : Int32)), none] [] (W1 s) Q) : wplI PP QQ none 0 lm0 523 [none, none, none, none, none, some (.int x5), some (.int x6), some (.int x7), some (.int x8), some (.int x9), some (.ref 1), none, none, none, none, none, none, none, none, none, none, none, some (.int x22), none, none, none, none, none, none, none, none, none, none, none, none, none] [.int y0] (W1 s) Q := by
  refine wpl_sl (n := 3) (pc' := 528) (ls' := [none, none, none, none, none, some (.int x5), some (.int x6), some (.int x7), some (.int x8), some (.int x9), some (.ref 1), none, none, none, none, none, none, none, none, none, none, none, some (.int x22), none, none, none, none, none, none, none, none, none, none, some (.int y0), some (.int (0 : Int32)), none]) (st' := []) rfl ?_
  exact h
theorem l0_528 (x5 : Int32) (x6 : Int32) (x7 : Int32) (x8 : Int32) (x9 : Int32) (x22 : Int32) (x33 : Int32) (x34 : Int32)  (Q : Int32 → Wd → Prop) (h : ((x34 < (4 : Int32)) → ∀ m137, m137 = (if x22 = (0 : Int32) then x5 else (if x34 = x6 then (if x34 = x7 then ((x5 - x8) - x9) else ((x5 - x8) - (0 : Int32))) else (if x34 = x7 then ((x5 - (0 : Int32)) - x9) else ((x5 - (0 : Int32)) - (0 : Int32))))) → (((x33 = (0 : Int32)) → wplI PP QQ none 0 lm0 597 [none, none, none, none, none, some (.int x5), some (.int x6), some (.int x7), some (.int x8), some (.int x9), some (.ref 1), none, none, none, none, none, none, none, none, none, none, none, some (.int x22), none, none, none, none, none, none, none, none, none, none, none, some (.int x34), none] [.int (0 : Int32)] (W1 s) Q) ∧ (¬ (x33 = (0 : Int32)) → calI PP 15 12 [.ref 0, .int x34] s (fun v144 s143 => ∀ m146, m146 = (if v144 = m137 then (1 : Int32) else (0 : Int32)) → (wplI PP QQ none 0 lm0 597 [none, none, none, none, none, some (.int x5), some (.int x6), some (.int x7), some (.int x8), some (.int x9), some (.ref 1), none, none, none, none, none, none, none, none, none, none, none, some (.int x22), none, none, none, none, none, none, none, none, none, none, none, some (.int x34), none] [.int m146] (W1 s143) Q))))) ∧ (¬ (x34 < (4 : Int32)) → Q (x33 &&& 1) (W1 s))) : wplI PP QQ none 0 lm0 528 [none, none, none, none, none, some (.int x5), some (.int x6), some (.int x7), some (.int x8), some (.int x9), some (.ref 1), none, none, none, none, none, none, none, none, none, none, none, some (.int x22), none, none, none, none, none, none, none, none, none, none, some (.int x33), some (.int x34), none] [] (W1 s) Q := by
  refine wpl_sl (n := 2) (pc' := 531) (ls' := [none, none, none, none, none, some (.int x5), some (.int x6), some (.int x7), some (.int x8), some (.int x9), some (.ref 1), none, none, none, none, none, none, none, none, none, none, none, some (.int x22), none, none, none, none, none, none, none, none, none, none, some (.int x33), some (.int x34), none]) (st' := [.int (4 : Int32), .int x34]) rfl ?_
  refine wpl_icmp (a := 605) (b := 534) rfl (by decide) rfl rfl (wpl_br (p := x34 < (4 : Int32)) ⟨fun hc134 => ?_, fun hc134 => ?_⟩)
  · have h135 := h.1 hc134
    refine wpl_sl (n := 3) (pc' := 540) (ls' := [none, none, none, none, none, some (.int x5), some (.int x6), some (.int x7), some (.int x8), some (.int x9), some (.ref 1), none, none, none, none, none, none, none, none, none, none, none, some (.int x22), none, none, none, none, none, none, none, none, none, none, some (.int x33), some (.int x34), some (.int x5)]) (st' := [.int x22]) rfl ?_
    have hm138 : ∀ m137, m137 = (if x22 = (0 : Int32) then x5 else (if x34 = x6 then (if x34 = x7 then ((x5 - x8) - x9) else ((x5 - x8) - (0 : Int32))) else (if x34 = x7 then ((x5 - (0 : Int32)) - x9) else ((x5 - (0 : Int32)) - (0 : Int32))))) → wplI PP QQ none 0 lm0 575 [none, none, none, none, none, some (.int x5), some (.int x6), some (.int x7), some (.int x8), some (.int x9), some (.ref 1), none, none, none, none, none, none, none, none, none, none, none, some (.int x22), none, none, none, none, none, none, none, none, none, none, some (.int x33), some (.int x34), some (.int m137)] [] (W1 s) Q := by
      intro m137 em137
      have h139 := h135 m137 em137
      refine wpl_sl (n := 1) (pc' := 577) (ls' := [none, none, none, none, none, some (.int x5), some (.int x6), some (.int x7), some (.int x8), some (.int x9), some (.ref 1), none, none, none, none, none, none, none, none, none, none, none, some (.int x22), none, none, none, none, none, none, none, none, none, none, some (.int x33), some (.int x34), some (.int m137)]) (st' := [.int x33]) rfl ?_
      refine wpl_if (a := 596) (b := 580) rfl (by decide) rfl rfl (wpl_br (p := x33 = (0 : Int32)) ⟨fun hc140 => ?_, fun hc140 => ?_⟩)
      · have h141 := h139.1 hc140
        refine wpl_sl (n := 1) (pc' := 597) (ls' := [none, none, none, none, none, some (.int x5), some (.int x6), some (.int x7), some (.int x8), some (.int x9), some (.ref 1), none, none, none, none, none, none, none, none, none, none, none, some (.int x22), none, none, none, none, none, none, none, none, none, none, some (.int x33), some (.int x34), some (.int m137)]) (st' := [.int (0 : Int32)]) rfl ?_
        exact wpl_lle (ls := [none, none, none, none, none, some (.int x5), some (.int x6), some (.int x7), some (.int x8), some (.int x9), some (.ref 1), none, none, none, none, none, none, none, none, none, none, none, some (.int x22), none, none, none, none, none, none, none, none, none, none, none, some (.int x34), none]) ⟨rfl, rfl, rfl, rfl, rfl, rfl, rfl, rfl, trivial⟩ h141
      · have h142 := h139.2 hc140
        refine wpl_sl (n := 2) (pc' := 584) (ls' := [none, none, none, none, none, some (.int x5), some (.int x6), some (.int x7), some (.int x8), some (.int x9), some (.ref 1), none, none, none, none, none, none, none, none, none, none, none, some (.int x22), none, none, none, none, none, none, none, none, none, none, some (.int x33), some (.int x34), some (.int m137)]) (st' := [.int x34, .ref 1]) rfl ?_
        refine wpl_v1 (m' := 15) (me' := cm15) (as := [.int x34]) (r := []) rfl rfl rfl rfl rfl ⟨by decide, (by first | decide | exact Nat.le_of_ble_eq_true rfl), (by first | decide | exact Nat.le_of_ble_eq_true rfl), rfl⟩ (cal_I (calI.mono h142 fun v144 s143 h145 => ?_))
        refine wpl_sl (n := 1) (pc' := 589) (ls' := [none, none, none, none, none, some (.int x5), some (.int x6), some (.int x7), some (.int x8), some (.int x9), some (.ref 1), none, none, none, none, none, none, none, none, none, none, none, some (.int x22), none, none, none, none, none, none, none, none, none, none, some (.int x33), some (.int x34), some (.int m137)]) (st' := [.int m137, .int v144]) rfl ?_
        have hm147 : ∀ m146, m146 = (if v144 = m137 then (1 : Int32) else (0 : Int32)) → wplI PP QQ none 0 lm0 597 [none, none, none, none, none, some (.int x5), some (.int x6), some (.int x7), some (.int x8), some (.int x9), some (.ref 1), none, none, none, none, none, none, none, none, none, none, none, some (.int x22), none, none, none, none, none, none, none, none, none, none, some (.int x33), some (.int x34), some (.int m137)] [.int m146] (W1 s143) Q := by
          intro m146 em146
          have h148 := h145 m146 em146
          exact wpl_lle (ls := [none, none, none, none, none, some (.int x5), some (.int x6), some (.int x7), some (.int x8), some (.int x9), some (.ref 1), none, none, none, none, none, none, none, none, none, none, none, some (.int x22), none, none, none, none, none, none, none, none, none, none, none, some (.int x34), none]) ⟨rfl, rfl, rfl, rfl, rfl, rfl, rfl, rfl, trivial⟩ h148
        refine wpl_icmp (a := 596) (b := 592) rfl (by decide) rfl rfl (wpl_br (p := v144 = m137) ⟨fun hc149 => ?_, fun hc149 => ?_⟩)
        · refine wpl_sl (n := 2) (pc' := 597) (ls' := [none, none, none, none, none, some (.int x5), some (.int x6), some (.int x7), some (.int x8), some (.int x9), some (.ref 1), none, none, none, none, none, none, none, none, none, none, none, some (.int x22), none, none, none, none, none, none, none, none, none, none, some (.int x33), some (.int x34), some (.int m137)]) (st' := [.int (1 : Int32)]) rfl ?_
          first | exact hm147 _ (by simp only [if_pos hc149]) | exact wpl_lle (by repeat (first | exact trivial | refine ⟨rfl, ?_⟩)) (hm147 _ (by simp only [if_pos hc149]))
        · refine wpl_sl (n := 1) (pc' := 597) (ls' := [none, none, none, none, none, some (.int x5), some (.int x6), some (.int x7), some (.int x8), some (.int x9), some (.ref 1), none, none, none, none, none, none, none, none, none, none, none, some (.int x22), none, none, none, none, none, none, none, none, none, none, some (.int x33), some (.int x34), some (.int m137)]) (st' := [.int (0 : Int32)]) rfl ?_
          first | exact hm147 _ (by simp only [if_neg hc149]) | exact wpl_lle (by repeat (first | exact trivial | refine ⟨rfl, ?_⟩)) (hm147 _ (by simp only [if_neg hc149]))
    refine wpl_if (a := 575) (b := 543) rfl (by decide) rfl rfl (wpl_br (p := x22 = (0 : Int32)) ⟨fun hc150 => ?_, fun hc150 => ?_⟩)
    · first | exact hm138 _ (by simp only [if_pos hc150]) | exact wpl_lle (by repeat (first | exact trivial | refine ⟨rfl, ?_⟩)) (hm138 _ (by simp only [if_pos hc150]))
    · refine wpl_sl (n := 3) (pc' := 549) (ls' := [none, none, none, none, none, some (.int x5), some (.int x6), some (.int x7), some (.int x8), some (.int x9), some (.ref 1), none, none, none, none, none, none, none, none, none, none, none, some (.int x22), none, none, none, none, none, none, none, none, none, none, some (.int x33), some (.int x34), some (.int x5)]) (st' := [.int x6, .int x34, .int x5]) rfl ?_
      refine wpl_icmp (a := 557) (b := 552) rfl (by decide) rfl rfl (wpl_br (p := x34 = x6) ⟨fun hc151 => ?_, fun hc151 => ?_⟩)
      · refine wpl_sl (n := 5) (pc' := 563) (ls' := [none, none, none, none, none, some (.int x5), some (.int x6), some (.int x7), some (.int x8), some (.int x9), some (.ref 1), none, none, none, none, none, none, none, none, none, none, none, some (.int x22), none, none, none, none, none, none, none, none, none, none, some (.int x33), some (.int x34), some (.int x5)]) (st' := [.int x7, .int x34, .int (x5 - x8)]) rfl ?_
        refine wpl_icmp (a := 571) (b := 566) rfl (by decide) rfl rfl (wpl_br (p := x34 = x7) ⟨fun hc152 => ?_, fun hc152 => ?_⟩)
        · refine wpl_sl (n := 4) (pc' := 575) (ls' := [none, none, none, none, none, some (.int x5), some (.int x6), some (.int x7), some (.int x8), some (.int x9), some (.ref 1), none, none, none, none, none, none, none, none, none, none, none, some (.int x22), none, none, none, none, none, none, none, none, none, none, some (.int x33), some (.int x34), some (.int ((x5 - x8) - x9))]) (st' := []) rfl ?_
          first | exact hm138 _ (by simp only [if_neg hc150, if_pos hc151, if_pos hc152]) | exact wpl_lle (by repeat (first | exact trivial | refine ⟨rfl, ?_⟩)) (hm138 _ (by simp only [if_neg hc150, if_pos hc151, if_pos hc152]))
        · refine wpl_sl (n := 3) (pc' := 575) (ls' := [none, none, none, none, none, some (.int x5), some (.int x6), some (.int x7), some (.int x8), some (.int x9), some (.ref 1), none, none, none, none, none, none, none, none, none, none, none, some (.int x22), none, none, none, none, none, none, none, none, none, none, some (.int x33), some (.int x34), some (.int ((x5 - x8) - (0 : Int32)))]) (st' := []) rfl ?_
          first | exact hm138 _ (by simp only [if_neg hc150, if_pos hc151, if_neg hc152]) | exact wpl_lle (by repeat (first | exact trivial | refine ⟨rfl, ?_⟩)) (hm138 _ (by simp only [if_neg hc150, if_pos hc151, if_neg hc152]))
      · refine wpl_sl (n := 4) (pc' := 563) (ls' := [none, none, none, none, none, some (.int x5), some (.int x6), some (.int x7), some (.int x8), some (.int x9), some (.ref 1), none, none, none, none, none, none, none, none, none, none, none, some (.int x22), none, none, none, none, none, none, none, none, none, none, some (.int x33), some (.int x34), some (.int x5)]) (st' := [.int x7, .int x34, .int (x5 - (0 : Int32))]) rfl ?_
        refine wpl_icmp (a := 571) (b := 566) rfl (by decide) rfl rfl (wpl_br (p := x34 = x7) ⟨fun hc153 => ?_, fun hc153 => ?_⟩)
        · refine wpl_sl (n := 4) (pc' := 575) (ls' := [none, none, none, none, none, some (.int x5), some (.int x6), some (.int x7), some (.int x8), some (.int x9), some (.ref 1), none, none, none, none, none, none, none, none, none, none, none, some (.int x22), none, none, none, none, none, none, none, none, none, none, some (.int x33), some (.int x34), some (.int ((x5 - (0 : Int32)) - x9))]) (st' := []) rfl ?_
          first | exact hm138 _ (by simp only [if_neg hc150, if_neg hc151, if_pos hc153]) | exact wpl_lle (by repeat (first | exact trivial | refine ⟨rfl, ?_⟩)) (hm138 _ (by simp only [if_neg hc150, if_neg hc151, if_pos hc153]))
        · refine wpl_sl (n := 3) (pc' := 575) (ls' := [none, none, none, none, none, some (.int x5), some (.int x6), some (.int x7), some (.int x8), some (.int x9), some (.ref 1), none, none, none, none, none, none, none, none, none, none, none, some (.int x22), none, none, none, none, none, none, none, none, none, none, some (.int x33), some (.int x34), some (.int ((x5 - (0 : Int32)) - (0 : Int32)))]) (st' := []) rfl ?_
          first | exact hm138 _ (by simp only [if_neg hc150, if_neg hc151, if_neg hc153]) | exact wpl_lle (by repeat (first | exact trivial | refine ⟨rfl, ?_⟩)) (hm138 _ (by simp only [if_neg hc150, if_neg hc151, if_neg hc153]))
  · have h136 := h.2 hc134
    refine wpl_sl (n := 1) (pc' := 607) (ls' := [none, none, none, none, none, some (.int x5), some (.int x6), some (.int x7), some (.int x8), some (.int x9), some (.ref 1), none, none, none, none, none, none, none, none, none, none, none, some (.int x22), none, none, none, none, none, none, none, none, none, none, some (.int x33), some (.int x34), none]) (st' := [.int x33]) rfl ?_
    exact wpl_ret rfl rfl rfl ⟨(x33 &&& 1), rfl, h136⟩
theorem l0_597 (x5 : Int32) (x6 : Int32) (x7 : Int32) (x8 : Int32) (x9 : Int32) (x22 : Int32) (x34 : Int32) (y0 : Int32)  (Q : Int32 → Wd → Prop) (h : wplI PP QQ none 0 lm0 528 [none, none, none, none, none, some (.int x5), some (.int x6), some (.int x7), some (.int x8), some (.int x9), some (.ref 1), none, none, none, none, none, none, none, none, none, none, none, some (.int x22), none, none, none, none, none, none, none, none, none, none, some (.int y0), some (.int (x34 + (1 : Int32))), none] [] (W1 s) Q) : wplI PP QQ none 0 lm0 597 [none, none, none, none, none, some (.int x5), some (.int x6), some (.int x7), some (.int x8), some (.int x9), some (.ref 1), none, none, none, none, none, none, none, none, none, none, none, some (.int x22), none, none, none, none, none, none, none, none, none, none, none, some (.int x34), none] [.int y0] (W1 s) Q := by
  refine wpl_sl (n := 3) (pc' := 528) (ls' := [none, none, none, none, none, some (.int x5), some (.int x6), some (.int x7), some (.int x8), some (.int x9), some (.ref 1), none, none, none, none, none, none, none, none, none, none, none, some (.int x22), none, none, none, none, none, none, none, none, none, none, some (.int y0), some (.int (x34 + (1 : Int32))), none]) (st' := []) rfl ?_
  exact h
theorem own_clamp (x lo hi : Int32) (s : St) (Q : Int32 → St → Prop) (h : Q (if x < lo then lo else if hi < x then hi else x) s) : calI PP 18 12 [.ref 0, .int x, .int lo, .int hi] s Q := by
  apply c18_in
  refine ⟨fun a => ?_, fun a => ⟨fun b => ?_, fun b => ?_⟩⟩
  · rw [if_pos a] at h; exact h
  · rw [if_neg a, if_pos b] at h; exact h
  · rw [if_neg a, if_neg b] at h; exact h
theorem own_19z (s : St) (Q : Int32 → St → Prop) (h : Q 1 s) : calI PP 19 12 [.ref 0, .int (0 : Int32)] s Q :=
  c19_in _ _ _ ⟨fun q => absurd q (by decide), fun _ => ⟨fun q => absurd q (by decide), fun _ => h⟩⟩
theorem own_k0 : ix ((0 : Int32) * 6 + 0) = 0 := by decide
theorem own_k1 : ix ((0 : Int32) * 6 + 1) = 1 := by decide
theorem own_z0 : ix (0 : Int32) = 0 := by decide
/-- saga 0 with two steps -/
def own_X (q0 q1 m0 m1 : Int32) (tot : Nat → Int32) (st fl ss sk sr u0 u1 e0 e1 : Int32) (s : St) : Prop :=
  (gI s 0 37 = 1 ∧ gI s 3 0 = 2 ∧ gI s 9 0 = q0 ∧ gI s 9 1 = q1 ∧ gI s 10 0 = m0 ∧ gI s 10 1 = m1) ∧ (∀ j, j < 4 → gI s 1 j = tot j) ∧ gI s 2 0 = st ∧ (gI s 5 0 = fl ∧ gI s 6 0 = ss ∧ gI s 7 0 = sk ∧ gI s 8 0 = sr) ∧ (gI s 11 0 = u0 ∧ gI s 11 1 = u1) ∧ (gI s 12 0 = e0 ∧ gI s 12 1 = e1)
/-- outstandingStep -/
theorem own_25x (s : St) (st u0 u1 : Int32) (k37 : gI s 0 37 = 1) (k3 : gI s 3 0 = 2) (k2 : gI s 2 0 = st) (k11 : gI s 11 0 = u0) (k11' : gI s 11 1 = u1) (Q : Int32 → St → Prop) (h : Q (if st = 2 then (if u0 = 1 then 0 else if u1 = 1 then 1 else -1) else if st = 3 then (if u0 = 4 then 0 else if u1 = 4 then 1 else -1) else -1) s) : calI PP 25 12 [.ref 0, .int 0] s Q := by
  have z01 : (0 : Int32) + 1 = 1 := by decide
  have z02 : (0 : Int32) + 1 + 1 = 2 := by decide
  have lp : ∀ w : Int32, Q (if u0 = w then 0 else if u1 = w then 1 else -1) s → wpcI PP 25 cm25 12 41 [some (.ref 0), some (.int 0), some (.int w), none, none] [] s Q := fun w hw => by
    refine c25_41 _ _ _ _ ⟨by decide, ?_⟩
    rw [own_z0, k3]
    refine c25_51 _ _ _ _ _ _ ⟨fun _ => ⟨fun _ => c21_in _ _ _ _ ⟨by decide, fun a => ?_, fun a => ?_⟩, fun q => absurd (by decide) q⟩, fun q => absurd (by decide) q⟩
    · rw [own_k0, k11] at a; rw [if_pos a] at hw; exact hw
    · rw [own_k0, k11] at a; rw [if_neg a] at hw
      rw [z01]
      refine c25_51 _ _ _ _ _ _ ⟨fun _ => ⟨fun _ => c21_in _ _ _ _ ⟨by decide, fun b => ?_, fun b => ?_⟩, fun q => absurd (by decide) q⟩, fun q => absurd (by decide) q⟩
      · rw [own_k1, k11'] at b; rw [if_pos b] at hw; exact hw
      · rw [own_k1, k11'] at b; rw [if_neg b] at hw
        exact c25_51 _ _ _ _ _ _ ⟨fun q => absurd q (by decide), fun _ => hw⟩
  apply c25_in
  rw [own_z0, k37, k2]
  refine ⟨fun q => absurd q (by decide), fun _ => ⟨by decide, fun a => ?_, fun a => ⟨by decide, fun b => ?_, fun b => ?_⟩⟩⟩
  · rw [if_pos a] at h; exact lp 1 h
  · rw [if_neg a, if_pos b] at h; exact lp 4 h
  · rw [if_neg a, if_neg b] at h; exact h
theorem own_26x (s : St) (st : Int32) (k2 : gI s 2 0 = st) (Q : Int32 → St → Prop) (h : Q (if st = 2 then 1 else 2) s) : calI PP 26 12 [.ref 0, .int 0] s Q := by
  apply c26_in
  rw [own_z0, k2]
  refine ⟨by decide, fun a => ?_, fun a => ?_⟩
  · rw [if_pos a] at h; exact h
  · rw [if_neg a] at h; exact h
/-- deliver: nothing outstanding -/
theorem own_dN {q0 q1 m0 m1 : Int32} {tot : Nat → Int32} {st fl ss sk sr u0 u1 e0 e1 : Int32} {s : St} (X : own_X q0 q1 m0 m1 tot st fl ss sk sr u0 u1 e0 e1 s) (h2 : ¬ st = 2) (h3 : ¬ st = 3) (Q : Int32 → St → Prop) (h : Q (-1) s) : calI PP 5 12 [.ref 0, .int 0] s Q := by
  obtain ⟨⟨k37, k3, k9, k9', k10, k10'⟩, k1, k2, ⟨k5, k6, k7, k8⟩, ⟨k11, k11'⟩, k12, k12'⟩ := X
  apply c5_in
  refine ⟨fun q => absurd (k37.symm.trans q) (by decide), fun _ => own_19z _ _ ⟨fun q => absurd q (by decide), fun _ => own_25x s st u0 u1 k37 k3 k2 k11 k11' _ ?_⟩⟩
  rw [if_neg h2, if_neg h3]
  exact ⟨fun _ => h, fun q => absurd (by decide) q⟩
/-- receive: no reply there -/
theorem own_rN {q0 q1 m0 m1 : Int32} {tot : Nat → Int32} {st ss sk sr u0 u1 e0 e1 : Int32} {s : St} (X : own_X q0 q1 m0 m1 tot st 0 ss sk sr u0 u1 e0 e1 s) (Q : Int32 → St → Prop) (h : Q (-1) s) : calI PP 7 12 [.ref 0, .int 0] s Q := by
  obtain ⟨⟨k37, k3, k9, k9', k10, k10'⟩, k1, k2, ⟨k5, k6, k7, k8⟩, ⟨k11, k11'⟩, k12, k12'⟩ := X
  apply c7_in
  exact ⟨fun q => absurd (k37.symm.trans q) (by decide), fun _ => own_19z _ _ ⟨fun q => absurd q (by decide), fun _ => ⟨by decide, fun _ => h, fun q => absurd k5 q⟩⟩⟩
/-- the totals after a change -/
def own_up (tot : Nat → Int32) (p : Nat) (v : Int32) : Nat → Int32 := fun j => if j = p then v else tot j
theorem own_lt3 {p : Int32} (h : 0 ≤ p.toInt ∧ p.toInt ≤ 3) : ¬ p < 0 ∧ ¬ 3 < p ∧ inb 4 p ∧ ix p < 4 := by
  have := ix_int h.1
  refine ⟨?_, ?_, ⟨h.1, by show _ < (4 : Int); omega⟩, by omega⟩
  · rw [i32_lt]; simp; omega
  · rw [i32_lt]; simp; omega
/-- deliver of the first reserve -/
theorem own_dA {q0 q1 m0 m1 : Int32} {tot : Nat → Int32} {fl ss sk sr u1 e1 : Int32} {s : St} (X : own_X q0 q1 m0 m1 tot 2 fl ss sk sr 1 u1 0 e1 s) (hq : 0 ≤ q0.toInt ∧ q0.toInt ≤ 3) (Q : Int32 → St → Prop) (hA : tot (ix q0) < m0 → ∀ t, own_X q0 q1 m0 m1 tot 2 1 0 1 1 1 u1 2 e1 t → Q 2 t) (hB : ¬ tot (ix q0) < m0 → ∀ t, own_X q0 q1 m0 m1 (own_up tot (ix q0) (tot (ix q0) - m0)) 2 1 0 1 0 1 u1 1 e1 t → Q 1 t) : calI PP 5 12 [.ref 0, .int 0] s Q := by
  obtain ⟨⟨k37, k3, k9, k9', k10, k10'⟩, k1, k2, ⟨k5, k6, k7, k8⟩, ⟨k11, k11'⟩, k12, k12'⟩ := X
  obtain ⟨l0, l3, lb, l4⟩ := own_lt3 hq
  apply c5_in
  refine ⟨fun q => absurd (k37.symm.trans q) (by decide), fun _ => own_19z _ _ ⟨fun q => absurd q (by decide), fun _ => own_25x s 2 1 u1 k37 k3 k2 k11 k11' _ ?_⟩⟩
  rw [if_pos rfl, if_pos rfl]
  refine ⟨fun q => absurd q (by decide), fun _ => own_26x s 2 k2 _ ?_⟩
  rw [if_pos rfl]
  apply c29_in
  refine c21_in _ _ _ _ ⟨fun _ => ?_, fun q => absurd rfl q⟩
  apply c30_in
  rw [own_k0, k9, k12, k10, k1 _ l4]
  refine ⟨by decide, fun _ => ⟨by decide, fun q => absurd q l0, fun _ => ⟨fun q => absurd q l3, fun _ => ⟨lb, by decide, fun a => ⟨by decide, by decide, ?_⟩, fun a => ⟨lb, by decide, lb, by decide, by decide, ?_⟩⟩⟩⟩, fun q => absurd rfl q⟩
  · have e : gI (sI s 12 0 2) 12 0 = 2 := by simp [gI_sI]
    rw [e]
    refine c28_in _ _ _ _ ⟨fun q => absurd q (by decide), fun _ => ⟨fun q => absurd q (by decide), fun _ => ⟨fun q => absurd q (by decide), fun _ => ?_⟩⟩⟩
    refine c24_in _ _ _ _ _ _ ⟨by decide, by decide, by decide, by decide, hA a _ ?_⟩
    rw [own_z0]
    exact ⟨⟨by simp [gI_sI, k37], by simp [gI_sI, k3], by simp [gI_sI, k9], by simp [gI_sI, k9'], by simp [gI_sI, k10], by simp [gI_sI, k10']⟩, fun j hj => by simp [gI_sI, k1 j hj], by simp [gI_sI, k2], ⟨by simp [gI_sI], by simp [gI_sI], by simp [gI_sI], by simp [gI_sI]⟩, ⟨by simp [gI_sI, k11], by simp [gI_sI, k11']⟩, by simp [gI_sI], by simp [gI_sI, k12']⟩
  · have e : gI (sI (sI s 1 (ix q0) (tot (ix q0) - m0)) 12 0 1) 12 0 = 1 := by simp [gI_sI]
    rw [e]
    refine c28_in _ _ _ _ ⟨fun q => absurd q (by decide), fun _ => ⟨fun _ => ?_, fun q => absurd rfl q⟩⟩
    refine c24_in _ _ _ _ _ _ ⟨by decide, by decide, by decide, by decide, hB a _ ?_⟩
    rw [own_z0]
    exact ⟨⟨by simp [gI_sI, k37], by simp [gI_sI, k3], by simp [gI_sI, k9], by simp [gI_sI, k9'], by simp [gI_sI, k10], by simp [gI_sI, k10']⟩, fun j hj => by simp [gI_sI, k1 j hj, own_up], by simp [gI_sI, k2], ⟨by simp [gI_sI], by simp [gI_sI], by simp [gI_sI], by simp [gI_sI]⟩, ⟨by simp [gI_sI, k11], by simp [gI_sI, k11']⟩, by simp [gI_sI], by simp [gI_sI, k12']⟩
/-- deliver of the second reserve -/
theorem own_dB {q0 q1 m0 m1 : Int32} {tot : Nat → Int32} {fl ss sk sr e0 : Int32} {s : St} (X : own_X q0 q1 m0 m1 tot 2 fl ss sk sr 2 1 e0 0 s) (hq : 0 ≤ q1.toInt ∧ q1.toInt ≤ 3) (Q : Int32 → St → Prop) (hA : tot (ix q1) < m1 → ∀ t, own_X q0 q1 m0 m1 tot 2 1 1 1 1 2 1 e0 2 t → Q 2 t) (hB : ¬ tot (ix q1) < m1 → ∀ t, own_X q0 q1 m0 m1 (own_up tot (ix q1) (tot (ix q1) - m1)) 2 1 1 1 0 2 1 e0 1 t → Q 1 t) : calI PP 5 12 [.ref 0, .int 0] s Q := by
  obtain ⟨⟨k37, k3, k9, k9', k10, k10'⟩, k1, k2, ⟨k5, k6, k7, k8⟩, ⟨k11, k11'⟩, k12, k12'⟩ := X
  obtain ⟨l0, l3, lb, l4⟩ := own_lt3 hq
  apply c5_in
  refine ⟨fun q => absurd (k37.symm.trans q) (by decide), fun _ => own_19z _ _ ⟨fun q => absurd q (by decide), fun _ => own_25x s 2 2 1 k37 k3 k2 k11 k11' _ ?_⟩⟩
  rw [if_pos rfl, if_neg (by decide), if_pos rfl]
  refine ⟨fun q => absurd q (by decide), fun _ => own_26x s 2 k2 _ ?_⟩
  rw [if_pos rfl]
  apply c29_in
  refine c21_in _ _ _ _ ⟨fun _ => ?_, fun q => absurd rfl q⟩
  apply c30_in
  rw [own_k1, k9', k12', k10', k1 _ l4]
  refine ⟨by decide, fun _ => ⟨by decide, fun q => absurd q l0, fun _ => ⟨fun q => absurd q l3, fun _ => ⟨lb, by decide, fun a => ⟨by decide, by decide, ?_⟩, fun a => ⟨lb, by decide, lb, by decide, by decide, ?_⟩⟩⟩⟩, fun q => absurd rfl q⟩
  · have e : gI (sI s 12 1 2) 12 1 = 2 := by simp [gI_sI]
    rw [e]
    refine c28_in _ _ _ _ ⟨fun q => absurd q (by decide), fun _ => ⟨fun q => absurd q (by decide), fun _ => ⟨fun q => absurd q (by decide), fun _ => ?_⟩⟩⟩
    refine c24_in _ _ _ _ _ _ ⟨by decide, by decide, by decide, by decide, hA a _ ?_⟩
    rw [own_z0]
    exact ⟨⟨by simp [gI_sI, k37], by simp [gI_sI, k3], by simp [gI_sI, k9], by simp [gI_sI, k9'], by simp [gI_sI, k10], by simp [gI_sI, k10']⟩, fun j hj => by simp [gI_sI, k1 j hj], by simp [gI_sI, k2], ⟨by simp [gI_sI], by simp [gI_sI], by simp [gI_sI], by simp [gI_sI]⟩, ⟨by simp [gI_sI, k11], by simp [gI_sI, k11']⟩, by simp [gI_sI, k12], by simp [gI_sI]⟩
  · have e : gI (sI (sI s 1 (ix q1) (tot (ix q1) - m1)) 12 1 1) 12 1 = 1 := by simp [gI_sI]
    rw [e]
    refine c28_in _ _ _ _ ⟨fun q => absurd q (by decide), fun _ => ⟨fun _ => ?_, fun q => absurd rfl q⟩⟩
    refine c24_in _ _ _ _ _ _ ⟨by decide, by decide, by decide, by decide, hB a _ ?_⟩
    rw [own_z0]
    exact ⟨⟨by simp [gI_sI, k37], by simp [gI_sI, k3], by simp [gI_sI, k9], by simp [gI_sI, k9'], by simp [gI_sI, k10], by simp [gI_sI, k10']⟩, fun j hj => by simp [gI_sI, k1 j hj, own_up], by simp [gI_sI, k2], ⟨by simp [gI_sI], by simp [gI_sI], by simp [gI_sI], by simp [gI_sI]⟩, ⟨by simp [gI_sI, k11], by simp [gI_sI, k11']⟩, by simp [gI_sI, k12], by simp [gI_sI]⟩
/-- deliver of the release -/
theorem own_dC {q0 q1 m0 m1 : Int32} {tot : Nat → Int32} {fl ss sk sr u1 e1 : Int32} {s : St} (X : own_X q0 q1 m0 m1 tot 3 fl ss sk sr 4 u1 1 e1 s) (hq : 0 ≤ q0.toInt ∧ q0.toInt ≤ 3) (Q : Int32 → St → Prop) (hB : ∀ t, own_X q0 q1 m0 m1 (own_up tot (ix q0) (tot (ix q0) + m0)) 3 1 0 2 0 4 u1 3 e1 t → Q 3 t) : calI PP 5 12 [.ref 0, .int 0] s Q := by
  obtain ⟨⟨k37, k3, k9, k9', k10, k10'⟩, k1, k2, ⟨k5, k6, k7, k8⟩, ⟨k11, k11'⟩, k12, k12'⟩ := X
  obtain ⟨l0, l3, lb, l4⟩ := own_lt3 hq
  apply c5_in
  refine ⟨fun q => absurd (k37.symm.trans q) (by decide), fun _ => own_19z _ _ ⟨fun q => absurd q (by decide), fun _ => own_25x s 3 4 u1 k37 k3 k2 k11 k11' _ ?_⟩⟩
  rw [if_neg (by decide), if_pos rfl, if_pos rfl]
  refine ⟨fun q => absurd q (by decide), fun _ => own_26x s 3 k2 _ ?_⟩
  rw [if_neg (by decide)]
  apply c29_in
  refine c21_in _ _ _ _ ⟨fun q => absurd q (by decide), fun _ => ?_⟩
  apply c31_in
  rw [own_k0, k9, k12, k10, k1 _ l4]
  refine ⟨by decide, fun q => absurd q l0, fun _ => ⟨fun q => absurd q l3, fun _ => ⟨by decide, fun _ => ⟨lb, by decide, lb, by decide, by decide, ?_⟩, fun q => absurd rfl q⟩⟩⟩
  have e : gI (sI (sI s 1 (ix q0) (tot (ix q0) + m0)) 12 0 3) 12 0 = 3 := by simp [gI_sI]
  rw [e]
  refine c28_in _ _ _ _ ⟨fun _ => ?_, fun q => absurd rfl q⟩
  refine c24_in _ _ _ _ _ _ ⟨by decide, by decide, by decide, by decide, hB _ ?_⟩
  rw [own_z0]
  exact ⟨⟨by simp [gI_sI, k37], by simp [gI_sI, k3], by simp [gI_sI, k9], by simp [gI_sI, k9'], by simp [gI_sI, k10], by simp [gI_sI, k10']⟩, fun j hj => by simp [gI_sI, k1 j hj, own_up], by simp [gI_sI, k2], ⟨by simp [gI_sI], by simp [gI_sI], by simp [gI_sI], by simp [gI_sI]⟩, ⟨by simp [gI_sI, k11], by simp [gI_sI, k11']⟩, by simp [gI_sI], by simp [gI_sI, k12']⟩
/-- highestDone -/
theorem own_36x (s : St) (u0 u1 : Int32) (k3 : gI s 3 0 = 2) (k11 : gI s 11 0 = u0) (k11' : gI s 11 1 = u1) (Q : Int32 → St → Prop) (h : Q (if u1 = 2 then 1 else if u0 = 2 then 0 else -1) s) : calI PP 36 12 [.ref 0, .int 0] s Q := by
  apply c36_in
  rw [own_z0, k3]
  refine ⟨by decide, fun m em => ?_⟩
  have em2 : m = 2 := by rw [em]; decide
  subst em2
  clear em
  have z1 : (2 : Int32) - 1 = 1 := by decide
  have z2 : (1 : Int32) + -1 = 0 := by decide
  have z3 : (0 : Int32) + -1 = -1 := by decide
  rw [z1]
  refine c36_20 _ _ _ _ ⟨fun q => absurd q (by decide), fun _ => c21_in _ _ _ _ ⟨by decide, fun a => ?_, fun a => ?_⟩⟩
  · rw [own_k1, k11'] at a; rw [if_pos a] at h; exact h
  · rw [own_k1, k11'] at a; rw [if_neg a] at h
    rw [z2]
    refine c36_20 _ _ _ _ ⟨fun q => absurd q (by decide), fun _ => c21_in _ _ _ _ ⟨by decide, fun b => ?_, fun b => ?_⟩⟩
    · rw [own_k0, k11] at b; rw [if_pos b] at h; exact h
    · rw [own_k0, k11] at b; rw [if_neg b] at h
      rw [z3]
      exact c36_20 _ _ _ _ ⟨fun _ => h, fun q => absurd (by decide) q⟩
/-- receive -/
theorem own_rG {q0 q1 m0 m1 : Int32} {tot : Nat → Int32} {st i kd sr u0 u1 e0 e1 : Int32} {s : St} (X : own_X q0 q1 m0 m1 tot st 1 i kd sr u0 u1 e0 e1 s) (hi : i = (if st = 2 then (if u0 = 1 then 0 else if u1 = 1 then 1 else -1) else if st = 3 then (if u0 = 4 then 0 else if u1 = 4 then 1 else -1) else -1)) (i0 : ¬ i < 0) (hk : kd = if st = 2 then 1 else 2) (Q : Int32 → St → Prop) (h : ∀ t, own_X q0 q1 m0 m1 tot st 0 i kd sr u0 u1 e0 e1 t → (kd = 1 → (sr = 0 → calV PP 32 12 [.ref 0, .int 0, .int i] t (fun w => Q (gI w 2 0) w)) ∧ (¬ sr = 0 → calV PP 33 12 [.ref 0, .int 0, .int i] t (fun w => Q (gI w 2 0) w))) ∧ (¬ kd = 1 → calV PP 34 12 [.ref 0, .int 0, .int i] t (fun w => Q (gI w 2 0) w))) : calI PP 7 12 [.ref 0, .int 0] s Q := by
  obtain ⟨⟨k37, k3, k9, k9', k10, k10'⟩, k1, k2, ⟨k5, k6, k7, k8⟩, ⟨k11, k11'⟩, k12, k12'⟩ := X
  apply c7_in
  refine ⟨fun q => absurd (k37.symm.trans q) (by decide), fun _ => own_19z _ _ ⟨fun q => absurd q (by decide), fun _ => ⟨by decide, fun q => absurd (k5.symm.trans q) (by decide), fun _ => ⟨by decide, ?_⟩⟩⟩⟩
  rw [own_z0]
  have h := h (sI s 5 0 0) ⟨⟨by simp [gI_sI, k37], by simp [gI_sI, k3], by simp [gI_sI, k9], by simp [gI_sI, k9'], by simp [gI_sI, k10], by simp [gI_sI, k10']⟩, fun j hj => by simp [gI_sI, k1 j hj], by simp [gI_sI, k2], ⟨by simp [gI_sI], by simp [gI_sI, k6], by simp [gI_sI, k7], by simp [gI_sI, k8]⟩, ⟨by simp [gI_sI, k11], by simp [gI_sI, k11']⟩, by simp [gI_sI, k12], by simp [gI_sI, k12']⟩
  have t6 : gI (sI s 5 0 0) 6 0 = i := by simp [gI_sI, k6]
  have t7 : gI (sI s 5 0 0) 7 0 = kd := by simp [gI_sI, k7]
  have t8 : gI (sI s 5 0 0) 8 0 = sr := by simp [gI_sI, k8]
  have b8 : inb 8 (0 : Int32) := by decide
  refine own_25x (sI s 5 0 0) st u0 u1 (by simp [gI_sI, k37]) (by simp [gI_sI, k3]) (by simp [gI_sI, k2]) (by simp [gI_sI, k11]) (by simp [gI_sI, k11']) _ ?_
  rw [← hi]
  refine ⟨fun q => absurd q i0, fun _ => own_26x (sI s 5 0 0) st (by simp [gI_sI, k2]) _ ?_⟩
  rw [← hk]
  rw [t6, t7, t8]
  refine ⟨b8, fun _ => ⟨b8, fun _ => ⟨fun a => ⟨b8, fun b => calV.mono ((h.1 a).1 b) fun w hw => ⟨b8, hw⟩, fun b => calV.mono ((h.1 a).2 b) fun w hw => ⟨b8, hw⟩⟩, fun a => calV.mono (h.2 a) fun w hw => ⟨b8, hw⟩⟩, fun q => absurd rfl q⟩, fun q => absurd rfl q⟩
theorem own_r1 {q0 q1 m0 m1 : Int32} {tot : Nat → Int32} {u1 e0 e1 : Int32} {s : St} (X : own_X q0 q1 m0 m1 tot 2 1 0 1 0 1 u1 e0 e1 s) (Q : Int32 → St → Prop) (h : ∀ t, own_X q0 q1 m0 m1 tot 2 0 0 1 0 2 1 e0 e1 t → Q 2 t) : calI PP 7 12 [.ref 0, .int 0] s Q := by
  refine own_rG X (by simp) (by decide) (by decide) Q fun t X => ⟨fun _ => ⟨fun _ => ?_, fun q => absurd rfl q⟩, fun q => absurd rfl q⟩
  obtain ⟨⟨k37, k3, k9, k9', k10, k10'⟩, k1, k2, ⟨k5, k6, k7, k8⟩, ⟨k11, k11'⟩, k12, k12'⟩ := X
  have z1 : ix ((0 : Int32) * 6 + (0 + 1)) = 1 := by decide
  apply c32_in
  refine c21_in _ _ _ _ ⟨by decide, by decide, fun _ => c21_in _ _ _ _ ⟨by decide, by decide, ?_⟩, fun q => absurd (by rw [own_z0, k3]; decide) q⟩
  rw [own_k0, z1, own_z0]
  have e : gI (sI (sI (sI t 11 0 2) 11 1 1) 4 0 0) 2 0 = 2 := by simp [gI_sI, k2]
  rw [e]
  exact h _ ⟨⟨by simp [gI_sI, k37], by simp [gI_sI, k3], by simp [gI_sI, k9], by simp [gI_sI, k9'], by simp [gI_sI, k10], by simp [gI_sI, k10']⟩, fun j hj => by simp [gI_sI, k1 j hj], by simp [gI_sI, k2], ⟨by simp [gI_sI, k5], by simp [gI_sI, k6], by simp [gI_sI, k7], by simp [gI_sI, k8]⟩, ⟨by simp [gI_sI], by simp [gI_sI]⟩, by simp [gI_sI, k12], by simp [gI_sI, k12']⟩
theorem own_r2 {q0 q1 m0 m1 : Int32} {tot : Nat → Int32} {e0 e1 : Int32} {s : St} (X : own_X q0 q1 m0 m1 tot 2 1 1 1 0 2 1 e0 e1 s) (Q : Int32 → St → Prop) (h : ∀ t, own_X q0 q1 m0 m1 tot 4 0 1 1 0 2 2 e0 e1 t → Q 4 t) : calI PP 7 12 [.ref 0, .int 0] s Q := by
  refine own_rG X (by decide) (by decide) (by decide) Q fun t X => ⟨fun _ => ⟨fun _ => ?_, fun q => absurd rfl q⟩, fun q => absurd rfl q⟩
  obtain ⟨⟨k37, k3, k9, k9', k10, k10'⟩, k1, k2, ⟨k5, k6, k7, k8⟩, ⟨k11, k11'⟩, k12, k12'⟩ := X
  apply c32_in
  refine c21_in _ _ _ _ ⟨by decide, by decide, fun q => absurd q (by rw [own_z0, k3]; decide), fun _ => ⟨by decide, ?_⟩⟩
  rw [own_k1, own_z0]
  have e : gI (sI (sI t 11 1 2) 2 0 4) 2 0 = 4 := by simp [gI_sI]
  rw [e]
  exact h _ ⟨⟨by simp [gI_sI, k37], by simp [gI_sI, k3], by simp [gI_sI, k9], by simp [gI_sI, k9'], by simp [gI_sI, k10], by simp [gI_sI, k10']⟩, fun j hj => by simp [gI_sI, k1 j hj], by simp [gI_sI], ⟨by simp [gI_sI, k5], by simp [gI_sI, k6], by simp [gI_sI, k7], by simp [gI_sI, k8]⟩, ⟨by simp [gI_sI, k11], by simp [gI_sI]⟩, by simp [gI_sI, k12], by simp [gI_sI, k12']⟩
theorem own_r3 {q0 q1 m0 m1 : Int32} {tot : Nat → Int32} {e0 e1 : Int32} {s : St} (X : own_X q0 q1 m0 m1 tot 2 1 0 1 1 1 0 e0 e1 s) (Q : Int32 → St → Prop) (h : ∀ t, own_X q0 q1 m0 m1 tot 5 0 0 1 1 3 0 e0 e1 t → Q 5 t) : calI PP 7 12 [.ref 0, .int 0] s Q := by
  refine own_rG X (by decide) (by decide) (by decide) Q fun t X => ⟨fun _ => ⟨fun q => absurd q (by decide), fun _ => ?_⟩, fun q => absurd rfl q⟩
  obtain ⟨⟨k37, k3, k9, k9', k10, k10'⟩, k1, k2, ⟨k5, k6, k7, k8⟩, ⟨k11, k11'⟩, k12, k12'⟩ := X
  apply c33_in
  refine c21_in _ _ _ _ ⟨by decide, c37_in _ _ _ ⟨by decide, ?_⟩⟩
  rw [own_k0, own_z0]
  refine own_36x (sI (sI t 11 0 3) 2 0 3) 3 0 (by simp [gI_sI, k3]) (by simp [gI_sI]) (by simp [gI_sI, k11']) _ ⟨fun _ => ⟨by decide, ?_⟩, fun q => absurd (by decide) q⟩
  have e : gI (sI (sI (sI t 11 0 3) 2 0 3) 2 0 5) 2 0 = 5 := by simp [gI_sI]
  rw [e]
  exact h _ ⟨⟨by simp [gI_sI, k37], by simp [gI_sI, k3], by simp [gI_sI, k9], by simp [gI_sI, k9'], by simp [gI_sI, k10], by simp [gI_sI, k10']⟩, fun j hj => by simp [gI_sI, k1 j hj], by simp [gI_sI], ⟨by simp [gI_sI, k5], by simp [gI_sI, k6], by simp [gI_sI, k7], by simp [gI_sI, k8]⟩, ⟨by simp [gI_sI], by simp [gI_sI, k11']⟩, by simp [gI_sI, k12], by simp [gI_sI, k12']⟩
theorem own_r4 {q0 q1 m0 m1 : Int32} {tot : Nat → Int32} {e0 e1 : Int32} {s : St} (X : own_X q0 q1 m0 m1 tot 2 1 1 1 1 2 1 e0 e1 s) (Q : Int32 → St → Prop) (h : ∀ t, own_X q0 q1 m0 m1 tot 3 0 1 1 1 4 3 e0 e1 t → Q 3 t) : calI PP 7 12 [.ref 0, .int 0] s Q := by
  refine own_rG X (by decide) (by decide) (by decide) Q fun t X => ⟨fun _ => ⟨fun q => absurd q (by decide), fun _ => ?_⟩, fun q => absurd rfl q⟩
  obtain ⟨⟨k37, k3, k9, k9', k10, k10'⟩, k1, k2, ⟨k5, k6, k7, k8⟩, ⟨k11, k11'⟩, k12, k12'⟩ := X
  apply c33_in
  refine c21_in _ _ _ _ ⟨by decide, c37_in _ _ _ ⟨by decide, ?_⟩⟩
  rw [own_k1, own_z0]
  refine own_36x (sI (sI t 11 1 3) 2 0 3) 2 3 (by simp [gI_sI, k3]) (by simp [gI_sI, k11]) (by simp [gI_sI]) _ ?_
  rw [if_neg (by decide), if_pos rfl]
  refine ⟨fun q => absurd q (by decide), fun _ => c21_in _ _ _ _ ⟨by decide, by decide, ?_⟩⟩
  rw [own_k0]
  have e : gI (sI (sI (sI (sI t 11 1 3) 2 0 3) 11 0 4) 4 0 0) 2 0 = 3 := by simp [gI_sI]
  rw [e]
  exact h _ ⟨⟨by simp [gI_sI, k37], by simp [gI_sI, k3], by simp [gI_sI, k9], by simp [gI_sI, k9'], by simp [gI_sI, k10], by simp [gI_sI, k10']⟩, fun j hj => by simp [gI_sI, k1 j hj], by simp [gI_sI], ⟨by simp [gI_sI, k5], by simp [gI_sI, k6], by simp [gI_sI, k7], by simp [gI_sI, k8]⟩, ⟨by simp [gI_sI], by simp [gI_sI]⟩, by simp [gI_sI, k12], by simp [gI_sI, k12']⟩
theorem own_r5 {q0 q1 m0 m1 : Int32} {tot : Nat → Int32} {e0 e1 : Int32} {s : St} (X : own_X q0 q1 m0 m1 tot 3 1 0 2 0 4 3 e0 e1 s) (Q : Int32 → St → Prop) (h : ∀ t, own_X q0 q1 m0 m1 tot 5 0 0 2 0 5 3 e0 e1 t → Q 5 t) : calI PP 7 12 [.ref 0, .int 0] s Q := by
  refine own_rG X (by decide) (by decide) (by decide) Q fun t X => ⟨fun q => absurd q (by decide), fun _ => ?_⟩
  obtain ⟨⟨k37, k3, k9, k9', k10, k10'⟩, k1, k2, ⟨k5, k6, k7, k8⟩, ⟨k11, k11'⟩, k12, k12'⟩ := X
  apply c34_in
  refine c21_in _ _ _ _ ⟨by decide, c37_in _ _ _ ⟨by decide, ?_⟩⟩
  rw [own_k0, own_z0]
  refine own_36x (sI (sI t 11 0 5) 2 0 3) 5 3 (by simp [gI_sI, k3]) (by simp [gI_sI]) (by simp [gI_sI, k11']) _ ⟨fun _ => ⟨by decide, ?_⟩, fun q => absurd (by decide) q⟩
  have e : gI (sI (sI (sI t 11 0 5) 2 0 3) 2 0 5) 2 0 = 5 := by simp [gI_sI]
  rw [e]
  exact h _ ⟨⟨by simp [gI_sI, k37], by simp [gI_sI, k3], by simp [gI_sI, k9], by simp [gI_sI, k9'], by simp [gI_sI, k10], by simp [gI_sI, k10']⟩, fun j hj => by simp [gI_sI, k1 j hj], by simp [gI_sI], ⟨by simp [gI_sI, k5], by simp [gI_sI, k6], by simp [gI_sI, k7], by simp [gI_sI, k8]⟩, ⟨by simp [gI_sI], by simp [gI_sI, k11']⟩, by simp [gI_sI, k12], by simp [gI_sI, k12']⟩
/-- the questions at the end -/
theorem own_tail (ini q0 q1 m0 m1 d1 r1 d2 r2 d3 r3 f y : Int32) {tot : Nat → Int32} {st fl ss sk sr u0 u1 e0 e1 : Int32} {s : St} (X : own_X q0 q1 m0 m1 tot st fl ss sk sr u0 u1 e0 e1 s)
    (h1 : d1 = if f = 0 then 2 else 1) (h2 : r1 = if f = 0 then 5 else 2) (h3 : d2 = if f = 0 then -1 else (if y = 0 then 2 else 1)) (h4 : r2 = if f = 0 then -1 else (if y = 0 then 3 else 4)) (h5 : d3 = if f = 0 then -1 else (if y = 0 then 3 else -1)) (h6 : r3 = if f = 0 then -1 else (if y = 0 then 5 else -1)) (h7 : u0 = if f = 0 then 3 else (if y = 0 then 5 else 2)) (h8 : u1 = if f = 0 then 0 else (if y = 0 then 3 else 2)) (h9 : e0 = if f = 0 then 2 else (if y = 0 then 3 else 1)) (h10 : e1 = if f = 0 then 0 else (if y = 0 then 2 else 1)) (h11 : st = if y = 0 then 5 else 4)
    (ht : ∀ j : Int32, 0 ≤ j.toInt → j.toInt < 4 → tot (ix j) = if y = 0 then ini else (if j = q0 then (if j = q1 then ((ini - m0) - m1) else ((ini - m0) - 0)) else (if j = q1 then ((ini - 0) - m1) else ((ini - 0) - 0)))) : wplI PP QQ none 0 lm0 208 [none, none, none, none, none, some (.int ini), some (.int q0), some (.int q1), some (.int m0), some (.int m1), some (.ref 1), some (.int 0), some (.int 0), some (.int 1), some (.int 1), some (.int d1), some (.int r1), some (.int d2), some (.int r2), some (.int d3), some (.int r3), some (.int f), none, none, none, none, none, none, none, none, none, none, none, none, none, none] [.int y] (W1 s) (fun v _ => v = 1) := by
  obtain ⟨⟨k37, k3, k9, k9', k10, k10'⟩, k1, k2, ⟨k5, k6, k7, k8⟩, ⟨k11, k11'⟩, k12, k12'⟩ := X
  have g20 : ∀ (i : Int32), i = 0 ∨ i = 1 → ∀ Q : Int32 → St → Prop, Q 1 s → calI PP 20 12 [.ref 0, .int (0 : Int32), .int i] s Q := by
    intro i hi Q h
    apply c20_in
    rw [own_z0, k3]
    rcases hi with rfl | rfl
    · exact ⟨fun q => absurd q (by decide), fun _ => ⟨by decide, fun _ => ⟨fun _ => h, fun q => absurd (by decide) q⟩, fun q => absurd (by decide) q⟩⟩
    · exact ⟨fun q => absurd q (by decide), fun _ => ⟨by decide, fun _ => ⟨fun _ => h, fun q => absurd (by decide) q⟩, fun q => absurd (by decide) q⟩⟩
  refine l0_208 _ _ _ _ _ _ _ _ _ _ _ _ _ _ _ _ _ _ fun m49 e49 m50 e50 m51 e51 m52 e52 m53 e53 m54 e54 m55 e55 m56 e56 m57 e57 m58 e58 m61 e61 => ?_
  have f61 : m61 = 1 := by rw [e61]; decide
  clear e61
  subst f61
  refine l0_342 _ _ _ _ _ _ _ _ _ _ _ _ _ _ _ _ _ _ _ _ _ _ _ _ fun m70 e70 => ?_
  rw [← h1] at e49
  rw [← h2] at e50
  rw [← h3] at e51
  rw [← h4] at e52
  rw [← h5] at e53
  rw [← h6] at e54
  rw [← h7] at e55
  rw [← h8] at e56
  rw [← h9] at e57
  rw [← h10] at e58
  have f70 : m70 = 1 := by
    rw [e70, if_neg (by decide), if_pos e49.symm, if_pos e50.symm, if_pos e51.symm, if_pos e52.symm, if_pos e53.symm, if_pos e54.symm]
  clear e70
  subst f70
  refine l0_396 _ _ _ _ _ _ _ _ _ _ _ _ ⟨fun q => absurd q (by decide), fun _ => c13_in _ _ _ _ (own_19z _ _ ⟨fun q => absurd q (by decide), fun _ => g20 0 (Or.inl rfl) _ ⟨fun q => absurd q (by decide), fun _ => c21_in _ _ _ _ ⟨by decide, fun m em => ?_⟩⟩⟩)⟩
  rw [own_k0, k11, if_pos e55.symm] at em
  subst em
  refine l0_420 _ _ _ _ _ _ _ _ _ _ _ ⟨fun q => absurd q (by decide), fun _ => c13_in _ _ _ _ (own_19z _ _ ⟨fun q => absurd q (by decide), fun _ => g20 1 (Or.inr rfl) _ ⟨fun q => absurd q (by decide), fun _ => c21_in _ _ _ _ ⟨by decide, fun m em => ?_⟩⟩⟩)⟩
  rw [own_k1, k11', if_pos e56.symm] at em
  subst em
  refine l0_444 _ _ _ _ _ _ _ _ _ _ ⟨fun q => absurd q (by decide), fun _ => c14_in _ _ _ _ (own_19z _ _ ⟨fun q => absurd q (by decide), fun _ => g20 0 (Or.inl rfl) _ ⟨fun q => absurd q (by decide), fun _ => c21_in _ _ _ _ ⟨by decide, fun m em => ?_⟩⟩⟩)⟩
  rw [own_k0, k12, if_pos e57.symm] at em
  subst em
  refine l0_468 _ _ _ _ _ _ _ _ _ ⟨fun q => absurd q (by decide), fun _ => c14_in _ _ _ _ (own_19z _ _ ⟨fun q => absurd q (by decide), fun _ => g20 1 (Or.inr rfl) _ ⟨fun q => absurd q (by decide), fun _ => c21_in _ _ _ _ ⟨by decide, fun m em => ?_⟩⟩⟩)⟩
  rw [own_k1, k12', if_pos e58.symm] at em
  subst em
  refine l0_492 _ _ _ _ _ _ _ _ ⟨fun q => absurd q (by decide), fun _ => c11_in _ _ _ (own_19z _ _ ⟨fun q => absurd q (by decide), fun _ => ⟨by decide, fun m126 e126 m em => ?_⟩⟩)⟩
  rw [own_z0, k2, if_pos (by rw [e126]; exact h11)] at em
  subst em
  apply l0_523
  refine loop_up (F := fun j => wplI PP QQ none 0 lm0 528 [none, none, none, none, none, some (.int ini), some (.int q0), some (.int q1), some (.int m0), some (.int m1), some (.ref 1), none, none, none, none, none, none, none, none, none, none, none, some (.int y), none, none, none, none, none, none, none, none, none, none, some (.int 1), some (.int j), none] [] (W1 s) (fun v _ => v = 1)) 4 (by decide) (fun j j0 j1 e ih => ?_) (fun j hj => ?_) 0 (by decide) (by decide)
  · have xj := ix_int j0
    obtain ⟨l0, l3, lb, l4⟩ := own_lt3 (p := j) ⟨j0, by omega⟩
    refine l0_528 _ _ _ _ _ _ _ _ _ ⟨fun _ m137 e137 => ⟨fun q => absurd q (by decide), fun _ => c15_in _ _ _ ⟨fun q => absurd q l0, fun _ => ⟨fun q => absurd q l3, fun _ => ⟨lb, fun m em => ?_⟩⟩⟩⟩, fun q => absurd (by rw [i32_lt]; exact j1) q⟩
    rw [k1 _ l4, if_pos (by rw [e137]; exact ht j j0 j1)] at em
    subst em
    exact l0_597 _ _ _ _ _ _ _ _ _ ih
  · exact l0_528 _ _ _ _ _ _ _ _ _ ⟨fun q => absurd q (by rw [i32_lt, hj]; decide), fun _ => by decide⟩
theorem own_amt (a : Int32) : 1 ≤ ((a % 100 + 100) % 100 + 1).toInt ∧ ((a % 100 + 100) % 100 + 1).toInt ≤ 100 := by
  have e1 : (a % 100).toInt = a.toInt.tmod 100 := by rw [Int32.toInt_mod]; rfl
  have l : -100 < a.toInt.tmod 100 ∧ a.toInt.tmod 100 < 100 := by
    have := Int.tmod_lt_of_pos a.toInt (show (0 : Int) < 100 by decide)
    have := Int.lt_tmod_of_pos a.toInt (show (0 : Int) < 100 by decide)
    omega
  have e2 : (a % 100 + 100).toInt = a.toInt.tmod 100 + 100 := by rw [i32_add] <;> rw [e1] <;> simp <;> omega
  have e3 : ((a % 100 + 100) % 100).toInt = (a.toInt.tmod 100 + 100) % 100 := by
    rw [Int32.toInt_mod, e2]
    exact Int.tmod_eq_emod_of_nonneg (by omega)
  have e4 : ((a % 100 + 100) % 100 + 1).toInt = (a.toInt.tmod 100 + 100) % 100 + 1 := by rw [i32_add] <;> rw [e3] <;> simp <;> omega
  rw [e4]; omega
theorem own_p3 (x : Int32) : 0 ≤ (x &&& 3).toInt ∧ (x &&& 3).toInt ≤ 3 := by
  have := Jvm.Kit.i32_mask x 3 (k := 2) (by decide) (by decide)
  rw [this]
  have e : ((2 : Int) ^ 2) = 4 := by decide
  omega
/-- addStep -/
theorem own_add (s : St) (p a n : Int32) (h37 : gI s 0 37 = 1) (h2 : gI s 2 0 = 1) (h3 : gI s 3 0 = n) (hn : n = 0 ∨ n = 1) (hp : 0 ≤ p.toInt ∧ p.toInt ≤ 3) (ha : 1 ≤ a.toInt ∧ a.toInt ≤ 100) (Q : Int32 → St → Prop) (h : Q n (sI (sI (sI (sI (sI s 9 (ix n) p) 10 (ix n) a) 11 (ix n) 0) 12 (ix n) 0) 3 0 (n + 1))) : calI PP 3 12 [.ref 0, .int 0, .int p, .int a] s Q := by
  apply c3_in
  have g3 : gI s 3 (ix 0) = n := h3
  have kx : ix ((0 : Int32) * 6 + n) = ix n := by rcases hn with rfl | rfl <;> decide
  have kb : inb 48 ((0 : Int32) * 6 + n) := by rcases hn with rfl | rfl <;> decide
  obtain ⟨l0, l3, lb, l4⟩ := own_lt3 hp
  refine ⟨fun q => absurd (h37.symm.trans q) (by decide), fun _ => own_19z _ _ ⟨fun q => absurd q (by decide), fun _ => ⟨by decide, fun _ => ⟨fun q => absurd q l0, fun _ => ⟨fun q => absurd q l3, fun _ => ⟨fun q => absurd q (by rw [i32_lt]; simp; omega), fun _ => ⟨fun q => absurd q (by rw [i32_lt]; simp; omega), fun _ => ⟨by decide, fun _ => ?_, fun q => absurd (by rw [g3]; rcases hn with rfl | rfl <;> decide) q⟩⟩⟩⟩⟩, fun q => absurd h2 q⟩⟩⟩
  apply c22_in
  rw [g3]
  refine ⟨by decide, c21_in _ _ _ _ ⟨kb, kb, kb, kb, by decide, ?_⟩⟩
  rw [kx, own_z0]; exact h
theorem law_ok (i0 i1 i2 i3 i4 : Int32) : lalI PP QQ none 0 [.int i0, .int i1, .int i2, .int i3, .int i4] W0 (fun v _ => v = 1) := by
  apply l0_in
  intro ini ei
  apply c0_in
  apply own_clamp
  rw [← ei]
  clear ei
  have hp0 := own_p3 i1
  have hp1 := own_p3 i3
  have ha0 := own_amt i2
  have ha1 := own_amt i4
  generalize i1 &&& 3 = q0 at hp0 ⊢
  generalize i3 &&& 3 = q1 at hp1 ⊢
  generalize (i2 % 100 + 100) % 100 + 1 = m0 at ha0 ⊢
  generalize (i4 % 100 + 100) % 100 + 1 = m1 at ha1 ⊢
  refine c0_113 _ _ _ _ _ _ ⟨fun _ => ⟨by decide, ?_⟩, fun q => absurd (by decide) q⟩
  refine c0_113 _ _ _ _ _ _ ⟨fun _ => ⟨by decide, ?_⟩, fun q => absurd (by decide) q⟩
  refine c0_113 _ _ _ _ _ _ ⟨fun _ => ⟨by decide, ?_⟩, fun q => absurd (by decide) q⟩
  refine c0_113 _ _ _ _ _ _ ⟨fun _ => ⟨by decide, ?_⟩, fun q => absurd (by decide) q⟩
  refine c0_113 _ _ _ _ _ _ ⟨fun q => absurd q (by decide), fun _ => ?_⟩
  apply own_clamp
  apply own_clamp
  generalize hA : sI _ 0 38 0 = A
  have a37 : gI A 0 37 = 1 := by subst hA; rfl
  have a38 : gI A 0 38 = 0 := by subst hA; rfl
  have a40 : gI A 0 40 = 8 := by subst hA; rfl
  have a1 : ∀ j, j < 4 → gI A 1 j = ini := fun j hj => by
    subst hA
    have : j = 0 ∨ j = 1 ∨ j = 2 ∨ j = 3 := by omega
    rcases this with rfl | rfl | rfl | rfl <;> rfl
  clear hA
  apply c2_in
  rw [a37, a38, a40]
  refine ⟨fun q => absurd q (by decide), fun _ => ⟨fun _ => ⟨fun q => absurd q (by decide), fun _ => ⟨fun q => absurd q (by decide), fun _ => ⟨by decide, by decide, by decide, ?_⟩⟩⟩, fun q => absurd (by decide) q⟩⟩
  apply c23_in
  refine ⟨by decide, by decide, by decide, by decide, ?_⟩
  rw [own_z0]
  generalize hS : sI _ 0 38 _ = S
  have s37 : gI S 0 37 = 1 := by subst hS; simp [gI_sI, a37]
  have s1 : ∀ j, j < 4 → gI S 1 j = ini := fun j hj => by subst hS; simp [gI_sI, a1 j hj]
  have s2 : gI S 2 0 = 1 := by subst hS; simp [gI_sI]
  have s3 : gI S 3 0 = 0 := by subst hS; simp [gI_sI]
  have s5 : gI S 5 0 = 0 := by subst hS; simp [gI_sI]
  have s6 : gI S 6 0 = 0 := by subst hS; simp [gI_sI]
  have s7 : gI S 7 0 = 0 := by subst hS; simp [gI_sI]
  have s8 : gI S 8 0 = 0 := by subst hS; simp [gI_sI]
  clear hS
  have z1 : ix (1 : Int32) = 1 := by decide
  have z01 : (0 : Int32) + 1 = 1 := by decide
  have z11 : (1 : Int32) + 1 = 2 := by decide
  refine own_add S q0 m0 0 s37 s2 s3 (Or.inl rfl) hp0 ha0 _ ?_
  rw [own_z0, z01]
  refine own_add _ q1 m1 1 (by simp [gI_sI, s37]) (by simp [gI_sI, s2]) (by simp [gI_sI]) (Or.inr rfl) hp1 ha1 _ ?_
  rw [z1, z11]
  generalize hT : sI _ 3 0 2 = T
  have t37 : gI T 0 37 = 1 := by subst hT; simp [gI_sI, s37]
  have t1 : ∀ j, j < 4 → gI T 1 j = ini := fun j hj => by subst hT; simp [gI_sI, s1 j hj]
  have t2 : gI T 2 0 = 1 := by subst hT; simp [gI_sI, s2]
  have t3 : gI T 3 0 = 2 := by subst hT; simp [gI_sI]
  have t5 : gI T 5 0 = 0 := by subst hT; simp [gI_sI, s5]
  have t6 : gI T 6 0 = 0 := by subst hT; simp [gI_sI, s6]
  have t7 : gI T 7 0 = 0 := by subst hT; simp [gI_sI, s7]
  have t8 : gI T 8 0 = 0 := by subst hT; simp [gI_sI, s8]
  have t9 : gI T 9 0 = q0 := by subst hT; simp [gI_sI]
  have t9' : gI T 9 1 = q1 := by subst hT; simp [gI_sI]
  have t10 : gI T 10 0 = m0 := by subst hT; simp [gI_sI]
  have t10' : gI T 10 1 = m1 := by subst hT; simp [gI_sI]
  have t11 : gI T 11 1 = 0 := by subst hT; simp [gI_sI]
  have t12 : gI T 12 0 = 0 := by subst hT; simp [gI_sI]
  have t12' : gI T 12 1 = 0 := by subst hT; simp [gI_sI]
  clear hT
  apply c4_in
  refine ⟨fun q => absurd (t37.symm.trans q) (by decide), fun _ => own_19z _ _ ⟨fun q => absurd q (by decide), fun _ => ⟨by decide, fun _ => ⟨by decide, fun q => absurd (t3.symm.trans q) (by decide), fun _ => ⟨by decide, c21_in _ _ _ _ ⟨by decide, by decide, ?_⟩⟩⟩, fun q => absurd t2 q⟩⟩⟩
  rw [own_k0, own_z0]
  have X : own_X q0 q1 m0 m1 (fun _ => ini) 2 0 0 0 0 1 0 0 0 (sI (sI (sI T 2 0 2) 11 0 1) 4 0 0) :=
    ⟨⟨by simp [gI_sI, t37], by simp [gI_sI, t3], by simp [gI_sI, t9], by simp [gI_sI, t9'], by simp [gI_sI, t10], by simp [gI_sI, t10']⟩, fun j hj => by simp [gI_sI, t1 j hj], by simp [gI_sI], ⟨by simp [gI_sI, t5], by simp [gI_sI, t6], by simp [gI_sI, t7], by simp [gI_sI, t8]⟩, ⟨by simp [gI_sI], by simp [gI_sI, t11]⟩, by simp [gI_sI, t12], by simp [gI_sI, t12']⟩
  generalize sI (sI (sI T 2 0 2) 11 0 1) 4 0 0 = U at X ⊢
  clear t37 t1 t2 t3 t5 t6 t7 t8 t9 t9' t10 t10' t11 t12 t12' s37 s1 s2 s3 s5 s6 s7 s8
  have x0 := ix_int hp0.1
  have x1 := ix_int hp1.1
  have xj : ∀ {a b : Int32}, 0 ≤ a.toInt → 0 ≤ b.toInt → (ix a = ix b ↔ a = b) := fun {a b} ha hb => ix_inj ha hb
  refine own_dA X hp0 _ (fun lt t X => ?_) (fun lt t X => ?_)
  · -- the first is refused
    apply l0_123
    refine own_r3 X _ fun t X => own_dN X (by decide) (by decide) _ (own_rN X _ (own_dN X (by decide) (by decide) _ (own_rN X _ fun m38 e38 m41 e41 => ?_)))
    rw [if_pos lt] at e38
    subst e38
    rw [if_pos rfl] at e41
    subst e41
    exact own_tail ini q0 q1 m0 m1 _ _ _ _ _ _ 0 0 X (by decide) (by decide) (by decide) (by decide) (by decide) (by decide) (by decide) (by decide) (by decide) (by decide) (by decide) (fun j _ _ => by rw [if_pos rfl])
  · apply l0_123
    refine own_r1 X _ fun t X => own_dB X hp1 _ (fun lt2 t X => ?_) (fun lt2 t X => ?_)
    · -- the second is refused
      refine own_r4 X _ fun t X => own_dC X hp0 _ fun t X => own_r5 X _ fun t X m38 e38 m41 e41 => ?_
      rw [if_neg lt] at e38
      subst e38
      have f41 : m41 = 0 := by
        rw [e41, if_neg (by decide)]
        unfold own_up at lt2
        by_cases y : q0 = q1
        · rw [if_pos y]; rw [if_pos (by rw [y])] at lt2; rw [if_pos lt2]
        · rw [if_neg y]; rw [if_neg (fun w => y ((xj hp1.1 hp0.1).mp w).symm)] at lt2; rw [Int32.sub_zero, if_pos lt2]
      subst f41
      refine own_tail ini q0 q1 m0 m1 _ _ _ _ _ _ 1 0 X (by decide) (by decide) (by decide) (by decide) (by decide) (by decide) (by decide) (by decide) (by decide) (by decide) (by decide) (fun j _ _ => ?_)
      rw [if_pos rfl]
      unfold own_up
      by_cases y : ix j = ix q0
      · rw [if_pos y, if_pos rfl, Int32.sub_add_cancel]
      · rw [if_neg y, if_neg y]
    · -- both are taken
      refine own_r2 X _ fun t X => own_dN X (by decide) (by decide) _ (own_rN X _ fun m38 e38 m41 e41 => ?_)
      rw [if_neg lt] at e38
      subst e38
      have f41 : m41 = 1 := by
        rw [e41, if_neg (by decide)]
        unfold own_up at lt2
        by_cases y : q0 = q1
        · rw [if_pos y]; rw [if_pos (by rw [y])] at lt2; rw [if_neg lt2]
        · rw [if_neg y]; rw [if_neg (fun w => y ((xj hp1.1 hp0.1).mp w).symm)] at lt2; rw [Int32.sub_zero, if_neg lt2]
      subst f41
      refine own_tail ini q0 q1 m0 m1 _ _ _ _ _ _ 1 1 X (by decide) (by decide) (by decide) (by decide) (by decide) (by decide) (by decide) (by decide) (by decide) (by decide) (by decide) (fun j j0 j1 => ?_)
      rw [if_neg (by decide)]
      unfold own_up
      have a := xj (a := j) (b := q0) j0 hp0.1
      have b := xj (a := j) (b := q1) j0 hp1.1
      have c := xj (a := q1) (b := q0) hp1.1 hp0.1
      simp only [a, b, c]
      by_cases y : j = q1
      · subst y
        simp only [if_true]
        by_cases w : j = q0
        · simp [w]
        · simp [w]
      · rw [if_neg y, if_neg y, if_neg y]
        by_cases w : j = q0
        · simp [w]
        · simp [w]
theorem comes_1 {Post : Tables → Env → Array Value → State → Outcome → State → Prop} (hpost : ∀ tb e args s v u, (limb_1_1.after args s (.returned v) u = true ∧ limb_1_2.after args s (.returned v) u = true ∧ True) → FrameEnd s (.returned v) u (Jvm.fieldLocs frame_1_writes args s ++ Jvm.arrayLocs frame_1_arrays args s ++ Jvm.staticLocs frame_1_statics s) 40 640 → Post tb e args s (.returned v) u) :
    ArmFor flags0 classFile x code maxLocals ret World_1 tables_1 room_1 Calls_1 rest_1 Pre_1 Post := by
  intro l hfl _ _ p e ha hc hk s m args below hf hA hF happ hP
  obtain ⟨hcalls, hrest, hpre⟩ := hP
  obtain ⟨-, -, -, hnamed, -, -, -, hat⟩ := (Spec.applies_iff hf).mp happ
  obtain ⟨hg, hn⟩ := and_e (Cond.before_iff.mp (show (Jvm.Cond.and given_1 narrow_1).before args s = true from hpre))
  obtain ⟨h1, g0⟩ := and_e hg
  obtain ⟨w0, w1, w2, w3, w4, rfl⟩ : ∃ w0 w1 w2 w3 w4 : Value, args = #[w0, w1, w2, w3, w4] := by
    have hs : args.size = 5 := by simpa [Cond.value, given_1] using h1
    obtain ⟨L⟩ := args
    match L, hs with
    | [w0, w1, w2, w3, w4], _ => exact ⟨w0, w1, w2, w3, w4, rfl⟩
  have hw := fun d (hd : d ∈ tables_1) => atoms_spec (ws := Jvm.Cond.code x code maxLocals ret :: tables_1) hat d (List.mem_cons_of_mem _ hd)
  have hfit : Fit s := fun {y c} hc i hi => by
    obtain ⟨ha, rfl⟩ := Array.getElem?_eq_some_iff.mp hc
    have q := List.all_eq_true.mp ((Array.all_eq_true_iff_forall_mem.mp hF) _ (Array.getElem_mem ha)) i (List.mem_range.mpr hi)
    simpa [Array.getElem?_eq_getElem hi] using q
  obtain ⟨q0, g1⟩ := and_e g0
  obtain ⟨i0, e0⟩ := is_v q0
  obtain rfl : w0 = (.int i0) := Option.some.inj e0
  obtain ⟨q1, g2⟩ := and_e g1
  obtain ⟨i1, e1⟩ := is_v q1
  obtain rfl : w1 = (.int i1) := Option.some.inj e1
  obtain ⟨q2, g3⟩ := and_e g2
  obtain ⟨i2, e2⟩ := is_v q2
  obtain rfl : w2 = (.int i2) := Option.some.inj e2
  obtain ⟨q3, g4⟩ := and_e g3
  obtain ⟨i3, e3⟩ := is_v q3
  obtain rfl : w3 = (.int i3) := Option.some.inj e3
  have q4 := g4
  obtain ⟨i4, e4⟩ := is_v q4
  obtain rfl : w4 = (.int i4) := Option.some.inj e4
  obtain ⟨f, w0, hr⟩ := law_run (law_ok i0 i1 i2 i3 i4) (me := lm0) rfl
  have M : MetFree l x (head1 (Jvm.Cond.code x code maxLocals ret :: tables_1) room_1) (fun b U => b = #[.int i0, .int i1, .int i2, .int i3, .int i4] ∧ s.Warmed39 U.vm ∧ U.heap = s.heap) (fun _ _ _ _ _ => True) (fun _ U o U' => ∃ u L, o = .returned u ∧ (u = some (.int 1) ∧ Fr s.heap.size L) ∧ FrameEnd U o U' L 40 640) :=
    law_met (lkC s _ hw) (lkL s _ hw) (sc := none) (a := 0) (me := lm0) rfl l (bytes := code) (chk_ok dk_l0) (as := [.int i0, .int i1, .int i2, .int i3, .int i4]) rfl (Nat.le_of_ble_eq_true rfl) hr trivial
  obtain ⟨n, o, h1, h2, h3, _, L, rfl, ⟨rfl, N⟩, hq⟩ := M p e ha hc hk s m _ below hf ((Spec.applies_iff_loose hf).mp happ).1 ⟨rfl, State.Warmed39.refl s, rfl⟩ trivial
  refine ⟨n, _, h1, h2, h3, hpost _ _ _ _ _ _ ⟨Cond.after_iff.mpr rfl, Cond.after_iff.mpr (eq_i res_at (Term.int_eval (1)) rfl), trivial⟩ ⟨hq.1, hq.2.1, (hq.2.2.sift fun y hy => Or.inr (N y hy)).mono (by decide) (by decide)⟩⟩
theorem main_1_1 : Claimed_1_1 := comes_1 fun _ _ _ _ _ _ h hF => ⟨h.1, hF⟩
theorem main_1_2 : Claimed_1_2 := comes_1 fun _ _ _ _ _ _ h hF => ⟨h.2.1, hF⟩
end Jvm.Pilot.@@N@@
namespace Jvm.Pilot.@@N@@
open Jvm Jvm.ClassFile Sem Op Lib Jvm.Free Jvm.Stand Jvm.Pilot.@@N@@.Jvm.D
/-! MADE BY PROGRAM (witnessworld.py) out of the Statement's table words and the real class files: 11 classes; the members and pool entries that the words name. The judged class is class 1, her method 1. -/
namespace start1
open Jvm.ClassFile
def u (s : String) : CpInfo := .utf8 (stringToUtf16 s)
/-- a pool by its gaps: so many unusable entries, then the entry; so many at the end -/
def gap : Nat → List CpInfo → List CpInfo
  | 0, r => r
  | n + 1, r => .unusable :: gap n r
def poolList (es : List (Nat × CpInfo)) (last : Nat) : List CpInfo := es.foldr (fun e r => gap e.1 (e.2 :: r)) (gap last [])
def pool (es : List (Nat × CpInfo)) (last : Nat) : Array CpInfo := ⟨poolList es last⟩
def fileOf (pool : Array CpInfo) (this : Nat) (attrs : Array Attribute := #[]) (ms : Array MethodInfo := #[]) (fl : Nat := 33) (sup : Nat := 0) (ifs : Array Nat := #[]) (fds : Array FieldInfo := #[]) : ClassFile where
  minorVersion := 0
  majorVersion := 65
  constantPool := pool
  accessFlags := fl
  thisClass := this
  superClass := sup
  interfaces := ifs
  fields := fds
  methods := ms
  attributes := attrs
def plain (name : String) (sup : Option ClassId) : Class where
  name := name
  kind := .ordinary
  loader := none
  accessFlags := 33
  super := sup
  interfaces := #[]
  cf := none
  fields := #[]
  methods := #[]
  instanceTypes := #[]
  staticTypes := #[]
  resolved := #[]
  callSites := []
  init := .initialized
  statics := none
  mirror := none

def pool0 : Array CpInfo := pool [(5, u "<init>"), (0, u "()V"), (1, .class_ 10), (1, u "java/lang/Object")] 113

def k0c0 : Code := { maxStack := 0, maxLocals := 1, code := object_method_1_code, exceptionTable := #[], attributes := #[] }
def k0m0 : Method := { name := "<init>", desc := "()V", sig := { parameters := [], returnType := none }, accessFlags := 1, code := some k0c0 }
/-- java/lang/Object -/
def k0 : Class := { plain "java/lang/Object" none with
  accessFlags := 33
  interfaces := #[]
  cf := some (fileOf pool0 8 #[] #[{ accessFlags := 1, nameIndex := 5, descriptorIndex := 6, attributes := #[] }] 33 0 #[] #[])
  fields := #[]
  methods := #[k0m0]
  instanceTypes := #[]
  staticTypes := #[]
  resolved := Array.replicate 124 none
  statics := none }

def pool1 : Array CpInfo := pool [(2, .class_ 4), (1, u "java/lang/Object"), (0, u "<init>"), (0, u "()V"), (0, .class_ 8), (0, u "SagaCoordinator"), (0, .methodref 7 10), (0, .nameAndType 5 11), (0, u "(III)V"), (0, .methodref 7 13), (0, .nameAndType 14 15), (0, u "beginSaga"), (0, u "()I"), (0, .methodref 7 17), (0, .nameAndType 18 19), (0, u "addStep"), (0, u "(III)I"), (0, .methodref 7 21), (0, .nameAndType 22 23), (0, u "startSaga"), (0, u "(I)Z"), (0, .methodref 7 25), (0, .nameAndType 26 27), (0, u "deliver"), (0, u "(I)I"), (0, .methodref 7 29), (0, .nameAndType 30 27), (0, u "receive"), (0, .methodref 7 32), (0, .nameAndType 33 34), (0, u "getStepState"), (0, u "(II)I"), (0, .methodref 7 36), (0, .nameAndType 37 34), (0, u "getEntry"), (0, .methodref 7 39), (0, .nameAndType 40 27), (0, u "getSagaStatus"), (0, .methodref 7 42), (0, .nameAndType 43 27), (0, u "getTotal"), (0, .class_ 45), (0, u "SagaCoordinatorL3"), (2, u "law"), (0, u "(IIIII)Z")] 3

def k1m0 : Method := { name := "<init>", desc := "()V", sig := { parameters := [], returnType := none }, accessFlags := 1, code := none }
def k1c1 : Code := { maxStack := 5, maxLocals := 36, code := code, exceptionTable := #[], attributes := #[] }
def k1m1 : Method := { name := "law", desc := "(IIIII)Z", sig := { parameters := [.int, .int, .int, .int, .int], returnType := some .boolean }, accessFlags := 9, code := some k1c1 }
/-- SagaCoordinatorL3 -/
def k1 : Class := { plain "SagaCoordinatorL3" (some 0) with
  accessFlags := 33
  interfaces := #[]
  cf := some (fileOf pool1 44 #[] #[{ accessFlags := 1, nameIndex := 5, descriptorIndex := 6, attributes := #[] }, { accessFlags := 9, nameIndex := 48, descriptorIndex := 49, attributes := #[] }] 33 2 #[] #[])
  fields := #[]
  methods := #[k1m0, k1m1]
  instanceTypes := #[]
  staticTypes := #[]
  resolved := Array.replicate 53 none
  statics := none }

def pool2 : Array CpInfo := pool [(1, .methodref 2 3), (0, .class_ 4), (0, .nameAndType 5 6), (0, u "java/lang/Object"), (0, u "<init>"), (0, u "()V"), (0, .fieldref 8 9), (0, .class_ 10), (0, .nameAndType 11 12), (0, u "SagaCoordinator"), (0, u "total"), (0, u "[I"), (0, .fieldref 8 14), (0, .nameAndType 15 12), (0, u "status"), (0, .fieldref 8 17), (0, .nameAndType 18 12), (0, u "count"), (0, .fieldref 8 20), (0, .nameAndType 21 12), (0, u "retries"), (0, .fieldref 8 23), (0, .nameAndType 24 25), (0, u "slotFull"), (0, u "[Z"), (0, .fieldref 8 27), (0, .nameAndType 28 12), (0, u "slotStep"), (0, .fieldref 8 30), (0, .nameAndType 31 12), (0, u "slotKind"), (0, .fieldref 8 33), (0, .nameAndType 34 12), (0, u "slotReply"), (0, .fieldref 8 36), (0, .nameAndType 37 12), (0, u "part"), (0, .fieldref 8 39), (0, .nameAndType 40 12), (0, u "amt"), (0, .fieldref 8 42), (0, .nameAndType 43 12), (0, u "stState"), (0, .fieldref 8 45), (0, .nameAndType 46 12), (0, u "entry"), (0, .methodref 8 48), (0, .nameAndType 49 50), (0, u "clamp"), (0, u "(III)I"), (0, .fieldref 8 52), (0, .nameAndType 53 54), (0, u "maxRetries"), (0, u "I"), (0, .fieldref 8 56), (0, .nameAndType 57 54), (0, u "sagaLimit"), (0, .fieldref 8 59), (0, .nameAndType 60 61), (0, u "up"), (0, u "Z"), (0, .fieldref 8 63), (0, .nameAndType 64 54), (0, u "begun"), (0, .methodref 8 66), (0, .nameAndType 67 68), (0, u "clearSlot"), (0, u "(I)V"), (0, .methodref 8 70), (0, .nameAndType 71 72), (0, u "isValidSaga"), (0, u "(I)Z"), (0, .methodref 8 74), (0, .nameAndType 75 50), (0, u "appendStep"), (0, .methodref 8 77), (0, .nameAndType 78 79), (0, u "key"), (0, u "(II)I"), (0, .methodref 8 81), (0, .nameAndType 82 83), (0, u "outstandingStep"), (0, u "(I)I"), (0, .methodref 8 85), (0, .nameAndType 86 83), (0, u "outstandingKind"), (0, .methodref 8 88), (0, .nameAndType 89 50), (0, u "process"), (0, .methodref 8 91), (0, .nameAndType 92 79), (0, u "replyFor"), (0, .methodref 8 94), (0, .nameAndType 95 96), (0, u "setSlot"), (0, u "(IIII)V"), (0, .methodref 8 98), (0, .nameAndType 99 100), (0, u "isValidStep"), (0, u "(II)Z"), (4, .methodref 8 106), (0, .nameAndType 107 108), (0, u "onReserveOk"), (0, u "(II)V"), (0, .methodref 8 110), (0, .nameAndType 111 108), (0, u "onReserveRefused"), (0, .methodref 8 113), (0, .nameAndType 114 108), (0, u "onReleaseOk"), (3, .methodref 8 119), (0, .nameAndType 120 68), (0, u "applyReserve"), (0, .methodref 8 122), (0, .nameAndType 123 68), (0, u "applyRelease"), (0, .methodref 8 125), (0, .nameAndType 126 68), (0, u "compensate"), (0, .methodref 8 128), (0, .nameAndType 129 83), (0, u "highestDone"), (0, u "S_FREE"), (2, u "S_BUILDING"), (1, u "S_RUNNING"), (1, u "S_COMPENSATING"), (1, u "S_COMMITTED"), (1, u "S_ABORTED"), (1, u "ST_PENDING"), (0, u "ST_SENT"), (0, u "ST_DONE"), (0, u "ST_FAILED"), (0, u "ST_RELEASING"), (0, u "ST_COMPENSATED"), (0, u "E_NONE"), (0, u "E_RESERVED"), (0, u "E_REFUSED"), (0, u "E_RELEASED"), (0, u "E_CANCELLED"), (0, u "K_RESERVE"), (0, u "K_RELEASE"), (0, u "REPLY_OK"), (0, u "REPLY_REFUSED"), (0, u "R_STALE"), (0, u "T_RESENT"), (0, u "T_GAVE_UP"), (0, u "(III)V"), (3, u "beginSaga"), (0, u "()I"), (0, u "addStep"), (0, u "startSaga"), (0, u "deliver"), (1, u "receive"), (4, u "getSagaStatus"), (1, u "getStepState"), (0, u "getEntry"), (0, u "getTotal")] 4

def k2c0 : Code := { maxStack := 5, maxLocals := 6, code := prog_1_method_1_code, exceptionTable := #[], attributes := #[] }
def k2m0 : Method := { name := "<init>", desc := "(III)V", sig := { parameters := [.int, .int, .int], returnType := none }, accessFlags := 1, code := some k2c0 }
def k2c1 : Code := { maxStack := 3, maxLocals := 2, code := prog_1_method_2_code, exceptionTable := #[], attributes := #[] }
def k2m1 : Method := { name := "beginSaga", desc := "()I", sig := { parameters := [], returnType := some .int }, accessFlags := 1, code := some k2c1 }
def k2c2 : Code := { maxStack := 4, maxLocals := 4, code := prog_1_method_3_code, exceptionTable := #[], attributes := #[] }
def k2m2 : Method := { name := "addStep", desc := "(III)I", sig := { parameters := [.int, .int, .int], returnType := some .int }, accessFlags := 1, code := some k2c2 }
def k2c3 : Code := { maxStack := 4, maxLocals := 2, code := prog_1_method_4_code, exceptionTable := #[], attributes := #[] }
def k2m3 : Method := { name := "startSaga", desc := "(I)Z", sig := { parameters := [.int], returnType := some .boolean }, accessFlags := 1, code := some k2c3 }
def k2c4 : Code := { maxStack := 5, maxLocals := 6, code := prog_1_method_5_code, exceptionTable := #[], attributes := #[] }
def k2m4 : Method := { name := "deliver", desc := "(I)I", sig := { parameters := [.int], returnType := some .int }, accessFlags := 1, code := some k2c4 }
def k2c5 : Code := { maxStack := 3, maxLocals := 4, code := prog_1_method_7_code, exceptionTable := #[], attributes := #[] }
def k2m5 : Method := { name := "receive", desc := "(I)I", sig := { parameters := [.int], returnType := some .int }, accessFlags := 1, code := some k2c5 }
def k2c6 : Code := { maxStack := 2, maxLocals := 2, code := prog_1_method_11_code, exceptionTable := #[], attributes := #[] }
def k2m6 : Method := { name := "getSagaStatus", desc := "(I)I", sig := { parameters := [.int], returnType := some .int }, accessFlags := 1, code := some k2c6 }
def k2c7 : Code := { maxStack := 4, maxLocals := 3, code := prog_1_method_13_code, exceptionTable := #[], attributes := #[] }
def k2m7 : Method := { name := "getStepState", desc := "(II)I", sig := { parameters := [.int, .int], returnType := some .int }, accessFlags := 1, code := some k2c7 }
def k2c8 : Code := { maxStack := 4, maxLocals := 3, code := prog_1_method_14_code, exceptionTable := #[], attributes := #[] }
def k2m8 : Method := { name := "getEntry", desc := "(II)I", sig := { parameters := [.int, .int], returnType := some .int }, accessFlags := 1, code := some k2c8 }
def k2c9 : Code := { maxStack := 2, maxLocals := 2, code := prog_1_method_15_code, exceptionTable := #[], attributes := #[] }
def k2m9 : Method := { name := "getTotal", desc := "(I)I", sig := { parameters := [.int], returnType := some .int }, accessFlags := 1, code := some k2c9 }
def k2c10 : Code := { maxStack := 2, maxLocals := 4, code := prog_1_method_18_code, exceptionTable := #[], attributes := #[] }
def k2m10 : Method := { name := "clamp", desc := "(III)I", sig := { parameters := [.int, .int, .int], returnType := some .int }, accessFlags := 2, code := some k2c10 }
def k2c11 : Code := { maxStack := 2, maxLocals := 2, code := prog_1_method_19_code, exceptionTable := #[], attributes := #[] }
def k2m11 : Method := { name := "isValidSaga", desc := "(I)Z", sig := { parameters := [.int], returnType := some .boolean }, accessFlags := 2, code := some k2c11 }
def k2c12 : Code := { maxStack := 3, maxLocals := 3, code := prog_1_method_20_code, exceptionTable := #[], attributes := #[] }
def k2m12 : Method := { name := "isValidStep", desc := "(II)Z", sig := { parameters := [.int, .int], returnType := some .boolean }, accessFlags := 2, code := some k2c12 }
def k2c13 : Code := { maxStack := 2, maxLocals := 3, code := prog_1_method_21_code, exceptionTable := #[], attributes := #[] }
def k2m13 : Method := { name := "key", desc := "(II)I", sig := { parameters := [.int, .int], returnType := some .int }, accessFlags := 2, code := some k2c13 }
def k2c14 : Code := { maxStack := 4, maxLocals := 6, code := prog_1_method_22_code, exceptionTable := #[], attributes := #[] }
def k2m14 : Method := { name := "appendStep", desc := "(III)I", sig := { parameters := [.int, .int, .int], returnType := some .int }, accessFlags := 2, code := some k2c14 }
def k2c15 : Code := { maxStack := 3, maxLocals := 2, code := prog_1_method_23_code, exceptionTable := #[], attributes := #[] }
def k2m15 : Method := { name := "clearSlot", desc := "(I)V", sig := { parameters := [.int], returnType := none }, accessFlags := 2, code := some k2c15 }
def k2c16 : Code := { maxStack := 3, maxLocals := 5, code := prog_1_method_24_code, exceptionTable := #[], attributes := #[] }
def k2m16 : Method := { name := "setSlot", desc := "(IIII)V", sig := { parameters := [.int, .int, .int, .int], returnType := none }, accessFlags := 2, code := some k2c16 }
def k2c17 : Code := { maxStack := 4, maxLocals := 5, code := prog_1_method_25_code, exceptionTable := #[], attributes := #[] }
def k2m17 : Method := { name := "outstandingStep", desc := "(I)I", sig := { parameters := [.int], returnType := some .int }, accessFlags := 2, code := some k2c17 }
def k2c18 : Code := { maxStack := 2, maxLocals := 2, code := prog_1_method_26_code, exceptionTable := #[], attributes := #[] }
def k2m18 : Method := { name := "outstandingKind", desc := "(I)I", sig := { parameters := [.int], returnType := some .int }, accessFlags := 2, code := some k2c18 }
def k2c19 : Code := { maxStack := 2, maxLocals := 3, code := prog_1_method_28_code, exceptionTable := #[], attributes := #[] }
def k2m19 : Method := { name := "replyFor", desc := "(II)I", sig := { parameters := [.int, .int], returnType := some .int }, accessFlags := 2, code := some k2c19 }
def k2c20 : Code := { maxStack := 3, maxLocals := 5, code := prog_1_method_29_code, exceptionTable := #[], attributes := #[] }
def k2m20 : Method := { name := "process", desc := "(III)I", sig := { parameters := [.int, .int, .int], returnType := some .int }, accessFlags := 2, code := some k2c20 }
def k2c21 : Code := { maxStack := 5, maxLocals := 3, code := prog_1_method_30_code, exceptionTable := #[], attributes := #[] }
def k2m21 : Method := { name := "applyReserve", desc := "(I)V", sig := { parameters := [.int], returnType := none }, accessFlags := 2, code := some k2c21 }
def k2c22 : Code := { maxStack := 5, maxLocals := 3, code := prog_1_method_31_code, exceptionTable := #[], attributes := #[] }
def k2m22 : Method := { name := "applyRelease", desc := "(I)V", sig := { parameters := [.int], returnType := none }, accessFlags := 2, code := some k2c22 }
def k2c23 : Code := { maxStack := 5, maxLocals := 3, code := prog_1_method_32_code, exceptionTable := #[], attributes := #[] }
def k2m23 : Method := { name := "onReserveOk", desc := "(II)V", sig := { parameters := [.int, .int], returnType := none }, accessFlags := 2, code := some k2c23 }
def k2c24 : Code := { maxStack := 4, maxLocals := 3, code := prog_1_method_33_code, exceptionTable := #[], attributes := #[] }
def k2m24 : Method := { name := "onReserveRefused", desc := "(II)V", sig := { parameters := [.int, .int], returnType := none }, accessFlags := 2, code := some k2c24 }
def k2c25 : Code := { maxStack := 4, maxLocals := 3, code := prog_1_method_34_code, exceptionTable := #[], attributes := #[] }
def k2m25 : Method := { name := "onReleaseOk", desc := "(II)V", sig := { parameters := [.int, .int], returnType := none }, accessFlags := 2, code := some k2c25 }
def k2c26 : Code := { maxStack := 4, maxLocals := 4, code := prog_1_method_36_code, exceptionTable := #[], attributes := #[] }
def k2m26 : Method := { name := "highestDone", desc := "(I)I", sig := { parameters := [.int], returnType := some .int }, accessFlags := 2, code := some k2c26 }
def k2c27 : Code := { maxStack := 4, maxLocals := 3, code := prog_1_method_37_code, exceptionTable := #[], attributes := #[] }
def k2m27 : Method := { name := "compensate", desc := "(I)V", sig := { parameters := [.int], returnType := none }, accessFlags := 2, code := some k2c27 }
/-- SagaCoordinator -/
def k2 : Class := { plain "SagaCoordinator" (some 0) with
  accessFlags := 49
  interfaces := #[]
  cf := some (fileOf pool2 8 #[] #[{ accessFlags := 1, nameIndex := 5, descriptorIndex := 161, attributes := #[] }, { accessFlags := 1, nameIndex := 165, descriptorIndex := 166, attributes := #[] }, { accessFlags := 1, nameIndex := 167, descriptorIndex := 50, attributes := #[] }, { accessFlags := 1, nameIndex := 168, descriptorIndex := 72, attributes := #[] }, { accessFlags := 1, nameIndex := 169, descriptorIndex := 83, attributes := #[] }, { accessFlags := 1, nameIndex := 171, descriptorIndex := 83, attributes := #[] }, { accessFlags := 1, nameIndex := 176, descriptorIndex := 83, attributes := #[] }, { accessFlags := 1, nameIndex := 178, descriptorIndex := 79, attributes := #[] }, { accessFlags := 1, nameIndex := 179, descriptorIndex := 79, attributes := #[] }, { accessFlags := 1, nameIndex := 180, descriptorIndex := 83, attributes := #[] }, { accessFlags := 2, nameIndex := 49, descriptorIndex := 50, attributes := #[] }, { accessFlags := 2, nameIndex := 71, descriptorIndex := 72, attributes := #[] }, { accessFlags := 2, nameIndex := 99, descriptorIndex := 100, attributes := #[] }, { accessFlags := 2, nameIndex := 78, descriptorIndex := 79, attributes := #[] }, { accessFlags := 2, nameIndex := 75, descriptorIndex := 50, attributes := #[] }, { accessFlags := 2, nameIndex := 67, descriptorIndex := 68, attributes := #[] }, { accessFlags := 2, nameIndex := 95, descriptorIndex := 96, attributes := #[] }, { accessFlags := 2, nameIndex := 82, descriptorIndex := 83, attributes := #[] }, { accessFlags := 2, nameIndex := 86, descriptorIndex := 83, attributes := #[] }, { accessFlags := 2, nameIndex := 92, descriptorIndex := 79, attributes := #[] }, { accessFlags := 2, nameIndex := 89, descriptorIndex := 50, attributes := #[] }, { accessFlags := 2, nameIndex := 120, descriptorIndex := 68, attributes := #[] }, { accessFlags := 2, nameIndex := 123, descriptorIndex := 68, attributes := #[] }, { accessFlags := 2, nameIndex := 107, descriptorIndex := 108, attributes := #[] }, { accessFlags := 2, nameIndex := 111, descriptorIndex := 108, attributes := #[] }, { accessFlags := 2, nameIndex := 114, descriptorIndex := 108, attributes := #[] }, { accessFlags := 2, nameIndex := 129, descriptorIndex := 83, attributes := #[] }, { accessFlags := 2, nameIndex := 126, descriptorIndex := 68, attributes := #[] }] 49 2 #[] #[{ accessFlags := 25, nameIndex := 130, descriptorIndex := 54, attributes := #[] }, { accessFlags := 25, nameIndex := 133, descriptorIndex := 54, attributes := #[] }, { accessFlags := 25, nameIndex := 135, descriptorIndex := 54, attributes := #[] }, { accessFlags := 25, nameIndex := 137, descriptorIndex := 54, attributes := #[] }, { accessFlags := 25, nameIndex := 139, descriptorIndex := 54, attributes := #[] }, { accessFlags := 25, nameIndex := 141, descriptorIndex := 54, attributes := #[] }, { accessFlags := 25, nameIndex := 143, descriptorIndex := 54, attributes := #[] }, { accessFlags := 25, nameIndex := 144, descriptorIndex := 54, attributes := #[] }, { accessFlags := 25, nameIndex := 145, descriptorIndex := 54, attributes := #[] }, { accessFlags := 25, nameIndex := 146, descriptorIndex := 54, attributes := #[] }, { accessFlags := 25, nameIndex := 147, descriptorIndex := 54, attributes := #[] }, { accessFlags := 25, nameIndex := 148, descriptorIndex := 54, attributes := #[] }, { accessFlags := 25, nameIndex := 149, descriptorIndex := 54, attributes := #[] }, { accessFlags := 25, nameIndex := 150, descriptorIndex := 54, attributes := #[] }, { accessFlags := 25, nameIndex := 151, descriptorIndex := 54, attributes := #[] }, { accessFlags := 25, nameIndex := 152, descriptorIndex := 54, attributes := #[] }, { accessFlags := 25, nameIndex := 153, descriptorIndex := 54, attributes := #[] }, { accessFlags := 25, nameIndex := 154, descriptorIndex := 54, attributes := #[] }, { accessFlags := 25, nameIndex := 155, descriptorIndex := 54, attributes := #[] }, { accessFlags := 25, nameIndex := 156, descriptorIndex := 54, attributes := #[] }, { accessFlags := 25, nameIndex := 157, descriptorIndex := 54, attributes := #[] }, { accessFlags := 25, nameIndex := 158, descriptorIndex := 54, attributes := #[] }, { accessFlags := 25, nameIndex := 159, descriptorIndex := 54, attributes := #[] }, { accessFlags := 25, nameIndex := 160, descriptorIndex := 54, attributes := #[] }, { accessFlags := 18, nameIndex := 11, descriptorIndex := 12, attributes := #[] }, { accessFlags := 18, nameIndex := 15, descriptorIndex := 12, attributes := #[] }, { accessFlags := 18, nameIndex := 18, descriptorIndex := 12, attributes := #[] }, { accessFlags := 18, nameIndex := 21, descriptorIndex := 12, attributes := #[] }, { accessFlags := 18, nameIndex := 24, descriptorIndex := 25, attributes := #[] }, { accessFlags := 18, nameIndex := 28, descriptorIndex := 12, attributes := #[] }, { accessFlags := 18, nameIndex := 31, descriptorIndex := 12, attributes := #[] }, { accessFlags := 18, nameIndex := 34, descriptorIndex := 12, attributes := #[] }, { accessFlags := 18, nameIndex := 37, descriptorIndex := 12, attributes := #[] }, { accessFlags := 18, nameIndex := 40, descriptorIndex := 12, attributes := #[] }, { accessFlags := 18, nameIndex := 43, descriptorIndex := 12, attributes := #[] }, { accessFlags := 18, nameIndex := 46, descriptorIndex := 12, attributes := #[] }, { accessFlags := 2, nameIndex := 60, descriptorIndex := 61, attributes := #[] }, { accessFlags := 2, nameIndex := 64, descriptorIndex := 54, attributes := #[] }, { accessFlags := 2, nameIndex := 53, descriptorIndex := 54, attributes := #[] }, { accessFlags := 2, nameIndex := 57, descriptorIndex := 54, attributes := #[] }])
  fields := #[{ name := "S_FREE", type := .int, accessFlags := 25, slot := 0, constantValue := 0 }, { name := "S_BUILDING", type := .int, accessFlags := 25, slot := 1, constantValue := 0 }, { name := "S_RUNNING", type := .int, accessFlags := 25, slot := 2, constantValue := 0 }, { name := "S_COMPENSATING", type := .int, accessFlags := 25, slot := 3, constantValue := 0 }, { name := "S_COMMITTED", type := .int, accessFlags := 25, slot := 4, constantValue := 0 }, { name := "S_ABORTED", type := .int, accessFlags := 25, slot := 5, constantValue := 0 }, { name := "ST_PENDING", type := .int, accessFlags := 25, slot := 6, constantValue := 0 }, { name := "ST_SENT", type := .int, accessFlags := 25, slot := 7, constantValue := 0 }, { name := "ST_DONE", type := .int, accessFlags := 25, slot := 8, constantValue := 0 }, { name := "ST_FAILED", type := .int, accessFlags := 25, slot := 9, constantValue := 0 }, { name := "ST_RELEASING", type := .int, accessFlags := 25, slot := 10, constantValue := 0 }, { name := "ST_COMPENSATED", type := .int, accessFlags := 25, slot := 11, constantValue := 0 }, { name := "E_NONE", type := .int, accessFlags := 25, slot := 12, constantValue := 0 }, { name := "E_RESERVED", type := .int, accessFlags := 25, slot := 13, constantValue := 0 }, { name := "E_REFUSED", type := .int, accessFlags := 25, slot := 14, constantValue := 0 }, { name := "E_RELEASED", type := .int, accessFlags := 25, slot := 15, constantValue := 0 }, { name := "E_CANCELLED", type := .int, accessFlags := 25, slot := 16, constantValue := 0 }, { name := "K_RESERVE", type := .int, accessFlags := 25, slot := 17, constantValue := 0 }, { name := "K_RELEASE", type := .int, accessFlags := 25, slot := 18, constantValue := 0 }, { name := "REPLY_OK", type := .int, accessFlags := 25, slot := 19, constantValue := 0 }, { name := "REPLY_REFUSED", type := .int, accessFlags := 25, slot := 20, constantValue := 0 }, { name := "R_STALE", type := .int, accessFlags := 25, slot := 21, constantValue := 0 }, { name := "T_RESENT", type := .int, accessFlags := 25, slot := 22, constantValue := 0 }, { name := "T_GAVE_UP", type := .int, accessFlags := 25, slot := 23, constantValue := 0 }, { name := "total", type := (.array .int), accessFlags := 18, slot := 0, constantValue := 0 }, { name := "status", type := (.array .int), accessFlags := 18, slot := 1, constantValue := 0 }, { name := "count", type := (.array .int), accessFlags := 18, slot := 2, constantValue := 0 }, { name := "retries", type := (.array .int), accessFlags := 18, slot := 3, constantValue := 0 }, { name := "slotFull", type := (.array .boolean), accessFlags := 18, slot := 4, constantValue := 0 }, { name := "slotStep", type := (.array .int), accessFlags := 18, slot := 5, constantValue := 0 }, { name := "slotKind", type := (.array .int), accessFlags := 18, slot := 6, constantValue := 0 }, { name := "slotReply", type := (.array .int), accessFlags := 18, slot := 7, constantValue := 0 }, { name := "part", type := (.array .int), accessFlags := 18, slot := 8, constantValue := 0 }, { name := "amt", type := (.array .int), accessFlags := 18, slot := 9, constantValue := 0 }, { name := "stState", type := (.array .int), accessFlags := 18, slot := 10, constantValue := 0 }, { name := "entry", type := (.array .int), accessFlags := 18, slot := 11, constantValue := 0 }, { name := "up", type := .boolean, accessFlags := 2, slot := 12, constantValue := 0 }, { name := "begun", type := .int, accessFlags := 2, slot := 13, constantValue := 0 }, { name := "maxRetries", type := .int, accessFlags := 2, slot := 14, constantValue := 0 }, { name := "sagaLimit", type := .int, accessFlags := 2, slot := 15, constantValue := 0 }]
  methods := #[k2m0, k2m1, k2m2, k2m3, k2m4, k2m5, k2m6, k2m7, k2m8, k2m9, k2m10, k2m11, k2m12, k2m13, k2m14, k2m15, k2m16, k2m17, k2m18, k2m19, k2m20, k2m21, k2m22, k2m23, k2m24, k2m25, k2m26, k2m27]
  instanceTypes := #[(.array .int), (.array .int), (.array .int), (.array .int), (.array .boolean), (.array .int), (.array .int), (.array .int), (.array .int), (.array .int), (.array .int), (.array .int), .boolean, .int, .int, .int]
  staticTypes := #[.int, .int, .int, .int, .int, .int, .int, .int, .int, .int, .int, .int, .int, .int, .int, .int, .int, .int, .int, .int, .int, .int, .int, .int]
  resolved := Array.replicate 185 none
  statics := none }

def pool3 : Array CpInfo := pool [(1, u "java/lang/Cloneable"), (0, .class_ 1), (0, u "java/lang/Object"), (0, .class_ 3)] 3

/-- java/lang/Cloneable -/
def k3 : Class := { plain "java/lang/Cloneable" (some 0) with
  accessFlags := 1537
  interfaces := #[]
  cf := some (fileOf pool3 2 #[] #[] 1537 4 #[] #[])
  fields := #[]
  methods := #[]
  instanceTypes := #[]
  staticTypes := #[]
  resolved := Array.replicate 8 none
  statics := none }

def pool4 : Array CpInfo := pool [(1, u "java/io/Serializable"), (0, .class_ 1), (0, u "java/lang/Object"), (0, .class_ 3)] 3

/-- java/io/Serializable -/
def k4 : Class := { plain "java/io/Serializable" (some 0) with
  accessFlags := 1537
  interfaces := #[]
  cf := some (fileOf pool4 2 #[] #[] 1537 4 #[] #[])
  fields := #[]
  methods := #[]
  instanceTypes := #[]
  staticTypes := #[]
  resolved := Array.replicate 8 none
  statics := none }

/-- the primitive boolean -/
def k5 : Class := { plain "boolean" none with kind := .primitive 'Z', accessFlags := 0x411 }
/-- [Z -/
def k6 : Class := { plain "[Z" (some 0) with kind := .array 5 .boolean, interfaces := #[3, 4], accessFlags := 1041 }

/-- the primitive byte -/
def k7 : Class := { plain "byte" none with kind := .primitive 'B', accessFlags := 0x411 }
/-- [B -/
def k8 : Class := { plain "[B" (some 0) with kind := .array 7 .byte, interfaces := #[3, 4], accessFlags := 1041 }

/-- the primitive int -/
def k9 : Class := { plain "int" none with kind := .primitive 'I', accessFlags := 0x411 }
/-- [I -/
def k10 : Class := { plain "[I" (some 0) with kind := .array 9 .int, interfaces := #[3, 4], accessFlags := 1041 }

def heap : Heap := #[]
def classes : Array Class := #[k0, k1, k2, k3, k4, k5, k6, k7, k8, k9, k10]
def interned : List (Array UInt16 × Addr) := []
def slotsUsed : Nat := 0
def theMethod : MethodId := ⟨1, 1⟩
def args0 : Array Value := #[.int 5, .int 5, .int 5, .int 5, .int 5]
def aboutOver (below : List Frame) : State where
  vm := { classes := classes, interned := interned.toArray }
  heap := heap
  slotsUsed := slotsUsed
  threads := #[{ frames := .invoking theMethod args0 :: below }]
def below0 : List Frame := [.native { method := ⟨0, 0⟩, args := #[] }]
def about1 : State := aboutOver below0
def p0 : Program := .bare "" "" ""
def e0 : Env := launch0.env 0 0 0
theorem w_frames : about1.frames = Frame.invoking theMethod args0 :: below0 := rfl
set_option maxRecDepth 65536 in
theorem w_args : argsFit about1.vm theMethod args0 = true := by decide +kernel
set_option maxRecDepth 65536 in
theorem w_heap : heapFits about1 = true := by decide +kernel
set_option maxRecDepth 65536 in
theorem w_runnable : about1.curStatus? = some .runnable := by decide +kernel
set_option maxRecDepth 65536 in
theorem w_alone : about1.alone = true := by decide +kernel
set_option maxRecDepth 65536 in
theorem w_named : about1.methodNamed? x = some theMethod := by decide +kernel
set_option maxRecDepth 65536 in
theorem w_hears : about1.hears theMethod below0 = true := by decide +kernel
set_option maxRecDepth 65536 in
theorem w_ripe : about1.ripe theMethod args0 below0 = true := by decide +kernel
theorem w_running : about1.status = .running := rfl
set_option maxRecDepth 65536 in
theorem w_room : about1.hasRoom e0.platform room_1 = true :=
  launch0.hasRoom_least _ room_1 (by decide +kernel) (by decide +kernel) (by decide +kernel) (by decide +kernel) (by decide +kernel) (by decide +kernel)
theorem allAtoms_all (ts : List Jvm.Cond) (a : Array Jvm.Value) (st : Jvm.State) : (allAtoms ts).before a st = ts.all (fun c => c.before a st) := by
  induction ts with
  | nil => rfl
  | cons c t ih =>
    show (Jvm.Cond.and c (allAtoms t)).before a st = _
    rw [Jvm.Cond.before_and, ih, List.all_cons]
def words1 : List Jvm.Cond := Jvm.Cond.code x code maxLocals ret :: tables_1
/-- a 'code' word, met by the world's own term for the bytes: nothing is compared byte by byte -/
theorem code_word {y : MethodName} {bytes : ByteArray} {mx : Nat} {rt : Option FieldType} {a : Array Value} {s : State} {m : MethodId} {meth : Method} {c : Code} (h1 : s.methodNamed? y = some m) (h2 : s.vm.method? m = some meth) (h3 : meth.code = some c) (h4 : c.code = bytes)
    (h5 : (c.maxLocals == mx && c.exceptionTable.isEmpty && decide (c.maxStack ≤ mostOperands) && decide (meth.sig.returnType = rt) && !meth.locks && decide (parseMethodDescriptor y.desc = some meth.sig)) = true) : (Jvm.Cond.code y bytes mx rt).before a s = true := by
  simp only [Bool.and_eq_true, beq_iff_eq, Bool.not_eq_true', decide_eq_true_eq] at h5
  obtain ⟨⟨⟨⟨⟨g1, g2⟩, g3⟩, g4⟩, g5⟩, g6⟩ := h5
  simp [Cond.before, Cond.holds, Cond.value, h1, h2, h3, h4, g1, g2, g3, g4, g5, g6]
def isCode : Jvm.Cond → Bool
  | .code _ _ _ _ => true
  | _ => false
theorem all_split {L : List Jvm.Cond} {P : Jvm.Cond → Bool} (h1 : L.all (fun c => isCode c || P c) = true) (h2 : ∀ c ∈ L.filter isCode, P c = true) : L.all P = true := by
  refine List.all_eq_true.mpr fun c hc => ?_
  have h := List.all_eq_true.mp h1 c hc
  rcases Bool.eq_false_or_eq_true (isCode c) with hi | hi
  · exact h2 c (List.mem_filter.mpr ⟨hc, hi⟩)
  · simpa [hi] using h
set_option maxRecDepth 65536 in
theorem w_c0 : (Jvm.Cond.code x code maxLocals ret).before args0 about1 = true := code_word (m := ⟨1, 1⟩) (meth := k1m1) (c := k1c1) (by decide +kernel) rfl rfl rfl (by decide +kernel)
set_option maxRecDepth 65536 in
theorem w_c1 : (Jvm.Cond.code ({ cls := "SagaCoordinator", name := "<init>", desc := "(III)V" } : Jvm.MethodName) prog_1_method_1_code (6 : Nat) (Option.none : Option Jvm.ClassFile.FieldType)).before args0 about1 = true := code_word (m := ⟨2, 0⟩) (meth := k2m0) (c := k2c0) (by decide +kernel) rfl rfl rfl (by decide +kernel)
set_option maxRecDepth 65536 in
theorem w_c2 : (Jvm.Cond.code ({ cls := "java/lang/Object", name := "<init>", desc := "()V" } : Jvm.MethodName) object_method_1_code (1 : Nat) (Option.none : Option Jvm.ClassFile.FieldType)).before args0 about1 = true := code_word (m := ⟨0, 0⟩) (meth := k0m0) (c := k0c0) (by decide +kernel) rfl rfl rfl (by decide +kernel)
set_option maxRecDepth 65536 in
theorem w_c3 : (Jvm.Cond.code ({ cls := "SagaCoordinator", name := "clamp", desc := "(III)I" } : Jvm.MethodName) prog_1_method_18_code (4 : Nat) (Option.some Jvm.ClassFile.FieldType.int)).before args0 about1 = true := code_word (m := ⟨2, 10⟩) (meth := k2m10) (c := k2c10) (by decide +kernel) rfl rfl rfl (by decide +kernel)
set_option maxRecDepth 65536 in
theorem w_c4 : (Jvm.Cond.code ({ cls := "SagaCoordinator", name := "beginSaga", desc := "()I" } : Jvm.MethodName) prog_1_method_2_code (2 : Nat) (Option.some Jvm.ClassFile.FieldType.int)).before args0 about1 = true := code_word (m := ⟨2, 1⟩) (meth := k2m1) (c := k2c1) (by decide +kernel) rfl rfl rfl (by decide +kernel)
set_option maxRecDepth 65536 in
theorem w_c5 : (Jvm.Cond.code ({ cls := "SagaCoordinator", name := "clearSlot", desc := "(I)V" } : Jvm.MethodName) prog_1_method_23_code (2 : Nat) (Option.none : Option Jvm.ClassFile.FieldType)).before args0 about1 = true := code_word (m := ⟨2, 15⟩) (meth := k2m15) (c := k2c15) (by decide +kernel) rfl rfl rfl (by decide +kernel)
set_option maxRecDepth 65536 in
theorem w_c6 : (Jvm.Cond.code ({ cls := "SagaCoordinator", name := "addStep", desc := "(III)I" } : Jvm.MethodName) prog_1_method_3_code (4 : Nat) (Option.some Jvm.ClassFile.FieldType.int)).before args0 about1 = true := code_word (m := ⟨2, 2⟩) (meth := k2m2) (c := k2c2) (by decide +kernel) rfl rfl rfl (by decide +kernel)
set_option maxRecDepth 65536 in
theorem w_c7 : (Jvm.Cond.code ({ cls := "SagaCoordinator", name := "isValidSaga", desc := "(I)Z" } : Jvm.MethodName) prog_1_method_19_code (2 : Nat) (Option.some Jvm.ClassFile.FieldType.boolean)).before args0 about1 = true := code_word (m := ⟨2, 11⟩) (meth := k2m11) (c := k2c11) (by decide +kernel) rfl rfl rfl (by decide +kernel)
set_option maxRecDepth 65536 in
theorem w_c8 : (Jvm.Cond.code ({ cls := "SagaCoordinator", name := "appendStep", desc := "(III)I" } : Jvm.MethodName) prog_1_method_22_code (6 : Nat) (Option.some Jvm.ClassFile.FieldType.int)).before args0 about1 = true := code_word (m := ⟨2, 14⟩) (meth := k2m14) (c := k2c14) (by decide +kernel) rfl rfl rfl (by decide +kernel)
set_option maxRecDepth 65536 in
theorem w_c9 : (Jvm.Cond.code ({ cls := "SagaCoordinator", name := "key", desc := "(II)I" } : Jvm.MethodName) prog_1_method_21_code (3 : Nat) (Option.some Jvm.ClassFile.FieldType.int)).before args0 about1 = true := code_word (m := ⟨2, 13⟩) (meth := k2m13) (c := k2c13) (by decide +kernel) rfl rfl rfl (by decide +kernel)
set_option maxRecDepth 65536 in
theorem w_c10 : (Jvm.Cond.code ({ cls := "SagaCoordinator", name := "startSaga", desc := "(I)Z" } : Jvm.MethodName) prog_1_method_4_code (2 : Nat) (Option.some Jvm.ClassFile.FieldType.boolean)).before args0 about1 = true := code_word (m := ⟨2, 3⟩) (meth := k2m3) (c := k2c3) (by decide +kernel) rfl rfl rfl (by decide +kernel)
set_option maxRecDepth 65536 in
theorem w_c11 : (Jvm.Cond.code ({ cls := "SagaCoordinator", name := "deliver", desc := "(I)I" } : Jvm.MethodName) prog_1_method_5_code (6 : Nat) (Option.some Jvm.ClassFile.FieldType.int)).before args0 about1 = true := code_word (m := ⟨2, 4⟩) (meth := k2m4) (c := k2c4) (by decide +kernel) rfl rfl rfl (by decide +kernel)
set_option maxRecDepth 65536 in
theorem w_c12 : (Jvm.Cond.code ({ cls := "SagaCoordinator", name := "outstandingStep", desc := "(I)I" } : Jvm.MethodName) prog_1_method_25_code (5 : Nat) (Option.some Jvm.ClassFile.FieldType.int)).before args0 about1 = true := code_word (m := ⟨2, 17⟩) (meth := k2m17) (c := k2c17) (by decide +kernel) rfl rfl rfl (by decide +kernel)
set_option maxRecDepth 65536 in
theorem w_c13 : (Jvm.Cond.code ({ cls := "SagaCoordinator", name := "outstandingKind", desc := "(I)I" } : Jvm.MethodName) prog_1_method_26_code (2 : Nat) (Option.some Jvm.ClassFile.FieldType.int)).before args0 about1 = true := code_word (m := ⟨2, 18⟩) (meth := k2m18) (c := k2c18) (by decide +kernel) rfl rfl rfl (by decide +kernel)
set_option maxRecDepth 65536 in
theorem w_c14 : (Jvm.Cond.code ({ cls := "SagaCoordinator", name := "process", desc := "(III)I" } : Jvm.MethodName) prog_1_method_29_code (5 : Nat) (Option.some Jvm.ClassFile.FieldType.int)).before args0 about1 = true := code_word (m := ⟨2, 20⟩) (meth := k2m20) (c := k2c20) (by decide +kernel) rfl rfl rfl (by decide +kernel)
set_option maxRecDepth 65536 in
theorem w_c15 : (Jvm.Cond.code ({ cls := "SagaCoordinator", name := "applyReserve", desc := "(I)V" } : Jvm.MethodName) prog_1_method_30_code (3 : Nat) (Option.none : Option Jvm.ClassFile.FieldType)).before args0 about1 = true := code_word (m := ⟨2, 21⟩) (meth := k2m21) (c := k2c21) (by decide +kernel) rfl rfl rfl (by decide +kernel)
set_option maxRecDepth 65536 in
theorem w_c16 : (Jvm.Cond.code ({ cls := "SagaCoordinator", name := "replyFor", desc := "(II)I" } : Jvm.MethodName) prog_1_method_28_code (3 : Nat) (Option.some Jvm.ClassFile.FieldType.int)).before args0 about1 = true := code_word (m := ⟨2, 19⟩) (meth := k2m19) (c := k2c19) (by decide +kernel) rfl rfl rfl (by decide +kernel)
set_option maxRecDepth 65536 in
theorem w_c17 : (Jvm.Cond.code ({ cls := "SagaCoordinator", name := "setSlot", desc := "(IIII)V" } : Jvm.MethodName) prog_1_method_24_code (5 : Nat) (Option.none : Option Jvm.ClassFile.FieldType)).before args0 about1 = true := code_word (m := ⟨2, 16⟩) (meth := k2m16) (c := k2c16) (by decide +kernel) rfl rfl rfl (by decide +kernel)
set_option maxRecDepth 65536 in
theorem w_c18 : (Jvm.Cond.code ({ cls := "SagaCoordinator", name := "receive", desc := "(I)I" } : Jvm.MethodName) prog_1_method_7_code (4 : Nat) (Option.some Jvm.ClassFile.FieldType.int)).before args0 about1 = true := code_word (m := ⟨2, 5⟩) (meth := k2m5) (c := k2c5) (by decide +kernel) rfl rfl rfl (by decide +kernel)
set_option maxRecDepth 65536 in
theorem w_c19 : (Jvm.Cond.code ({ cls := "SagaCoordinator", name := "onReserveRefused", desc := "(II)V" } : Jvm.MethodName) prog_1_method_33_code (3 : Nat) (Option.none : Option Jvm.ClassFile.FieldType)).before args0 about1 = true := code_word (m := ⟨2, 24⟩) (meth := k2m24) (c := k2c24) (by decide +kernel) rfl rfl rfl (by decide +kernel)
set_option maxRecDepth 65536 in
theorem w_c20 : (Jvm.Cond.code ({ cls := "SagaCoordinator", name := "compensate", desc := "(I)V" } : Jvm.MethodName) prog_1_method_37_code (3 : Nat) (Option.none : Option Jvm.ClassFile.FieldType)).before args0 about1 = true := code_word (m := ⟨2, 27⟩) (meth := k2m27) (c := k2c27) (by decide +kernel) rfl rfl rfl (by decide +kernel)
set_option maxRecDepth 65536 in
theorem w_c21 : (Jvm.Cond.code ({ cls := "SagaCoordinator", name := "highestDone", desc := "(I)I" } : Jvm.MethodName) prog_1_method_36_code (4 : Nat) (Option.some Jvm.ClassFile.FieldType.int)).before args0 about1 = true := code_word (m := ⟨2, 26⟩) (meth := k2m26) (c := k2c26) (by decide +kernel) rfl rfl rfl (by decide +kernel)
set_option maxRecDepth 65536 in
theorem w_c22 : (Jvm.Cond.code ({ cls := "SagaCoordinator", name := "getStepState", desc := "(II)I" } : Jvm.MethodName) prog_1_method_13_code (3 : Nat) (Option.some Jvm.ClassFile.FieldType.int)).before args0 about1 = true := code_word (m := ⟨2, 7⟩) (meth := k2m7) (c := k2c7) (by decide +kernel) rfl rfl rfl (by decide +kernel)
set_option maxRecDepth 65536 in
theorem w_c23 : (Jvm.Cond.code ({ cls := "SagaCoordinator", name := "isValidStep", desc := "(II)Z" } : Jvm.MethodName) prog_1_method_20_code (3 : Nat) (Option.some Jvm.ClassFile.FieldType.boolean)).before args0 about1 = true := code_word (m := ⟨2, 12⟩) (meth := k2m12) (c := k2c12) (by decide +kernel) rfl rfl rfl (by decide +kernel)
set_option maxRecDepth 65536 in
theorem w_c24 : (Jvm.Cond.code ({ cls := "SagaCoordinator", name := "getEntry", desc := "(II)I" } : Jvm.MethodName) prog_1_method_14_code (3 : Nat) (Option.some Jvm.ClassFile.FieldType.int)).before args0 about1 = true := code_word (m := ⟨2, 8⟩) (meth := k2m8) (c := k2c8) (by decide +kernel) rfl rfl rfl (by decide +kernel)
set_option maxRecDepth 65536 in
theorem w_c25 : (Jvm.Cond.code ({ cls := "SagaCoordinator", name := "getSagaStatus", desc := "(I)I" } : Jvm.MethodName) prog_1_method_11_code (2 : Nat) (Option.some Jvm.ClassFile.FieldType.int)).before args0 about1 = true := code_word (m := ⟨2, 6⟩) (meth := k2m6) (c := k2c6) (by decide +kernel) rfl rfl rfl (by decide +kernel)
set_option maxRecDepth 65536 in
theorem w_c26 : (Jvm.Cond.code ({ cls := "SagaCoordinator", name := "getTotal", desc := "(I)I" } : Jvm.MethodName) prog_1_method_15_code (2 : Nat) (Option.some Jvm.ClassFile.FieldType.int)).before args0 about1 = true := code_word (m := ⟨2, 9⟩) (meth := k2m9) (c := k2c9) (by decide +kernel) rfl rfl rfl (by decide +kernel)
set_option maxRecDepth 65536 in
theorem w_c27 : (Jvm.Cond.code ({ cls := "SagaCoordinator", name := "onReserveOk", desc := "(II)V" } : Jvm.MethodName) prog_1_method_32_code (3 : Nat) (Option.none : Option Jvm.ClassFile.FieldType)).before args0 about1 = true := code_word (m := ⟨2, 23⟩) (meth := k2m23) (c := k2c23) (by decide +kernel) rfl rfl rfl (by decide +kernel)
set_option maxRecDepth 65536 in
theorem w_c28 : (Jvm.Cond.code ({ cls := "SagaCoordinator", name := "applyRelease", desc := "(I)V" } : Jvm.MethodName) prog_1_method_31_code (3 : Nat) (Option.none : Option Jvm.ClassFile.FieldType)).before args0 about1 = true := code_word (m := ⟨2, 22⟩) (meth := k2m22) (c := k2c22) (by decide +kernel) rfl rfl rfl (by decide +kernel)
set_option maxRecDepth 65536 in
theorem w_c29 : (Jvm.Cond.code ({ cls := "SagaCoordinator", name := "onReleaseOk", desc := "(II)V" } : Jvm.MethodName) prog_1_method_34_code (3 : Nat) (Option.none : Option Jvm.ClassFile.FieldType)).before args0 about1 = true := code_word (m := ⟨2, 25⟩) (meth := k2m25) (c := k2c25) (by decide +kernel) rfl rfl rfl (by decide +kernel)
def codes1 : List Jvm.Cond := [Jvm.Cond.code x code maxLocals ret, Jvm.Cond.code ({ cls := "SagaCoordinator", name := "<init>", desc := "(III)V" } : Jvm.MethodName) prog_1_method_1_code (6 : Nat) (Option.none : Option Jvm.ClassFile.FieldType), Jvm.Cond.code ({ cls := "java/lang/Object", name := "<init>", desc := "()V" } : Jvm.MethodName) object_method_1_code (1 : Nat) (Option.none : Option Jvm.ClassFile.FieldType), Jvm.Cond.code ({ cls := "SagaCoordinator", name := "clamp", desc := "(III)I" } : Jvm.MethodName) prog_1_method_18_code (4 : Nat) (Option.some Jvm.ClassFile.FieldType.int), Jvm.Cond.code ({ cls := "SagaCoordinator", name := "beginSaga", desc := "()I" } : Jvm.MethodName) prog_1_method_2_code (2 : Nat) (Option.some Jvm.ClassFile.FieldType.int), Jvm.Cond.code ({ cls := "SagaCoordinator", name := "clearSlot", desc := "(I)V" } : Jvm.MethodName) prog_1_method_23_code (2 : Nat) (Option.none : Option Jvm.ClassFile.FieldType), Jvm.Cond.code ({ cls := "SagaCoordinator", name := "addStep", desc := "(III)I" } : Jvm.MethodName) prog_1_method_3_code (4 : Nat) (Option.some Jvm.ClassFile.FieldType.int), Jvm.Cond.code ({ cls := "SagaCoordinator", name := "isValidSaga", desc := "(I)Z" } : Jvm.MethodName) prog_1_method_19_code (2 : Nat) (Option.some Jvm.ClassFile.FieldType.boolean), Jvm.Cond.code ({ cls := "SagaCoordinator", name := "appendStep", desc := "(III)I" } : Jvm.MethodName) prog_1_method_22_code (6 : Nat) (Option.some Jvm.ClassFile.FieldType.int), Jvm.Cond.code ({ cls := "SagaCoordinator", name := "key", desc := "(II)I" } : Jvm.MethodName) prog_1_method_21_code (3 : Nat) (Option.some Jvm.ClassFile.FieldType.int), Jvm.Cond.code ({ cls := "SagaCoordinator", name := "startSaga", desc := "(I)Z" } : Jvm.MethodName) prog_1_method_4_code (2 : Nat) (Option.some Jvm.ClassFile.FieldType.boolean), Jvm.Cond.code ({ cls := "SagaCoordinator", name := "deliver", desc := "(I)I" } : Jvm.MethodName) prog_1_method_5_code (6 : Nat) (Option.some Jvm.ClassFile.FieldType.int), Jvm.Cond.code ({ cls := "SagaCoordinator", name := "outstandingStep", desc := "(I)I" } : Jvm.MethodName) prog_1_method_25_code (5 : Nat) (Option.some Jvm.ClassFile.FieldType.int), Jvm.Cond.code ({ cls := "SagaCoordinator", name := "outstandingKind", desc := "(I)I" } : Jvm.MethodName) prog_1_method_26_code (2 : Nat) (Option.some Jvm.ClassFile.FieldType.int), Jvm.Cond.code ({ cls := "SagaCoordinator", name := "process", desc := "(III)I" } : Jvm.MethodName) prog_1_method_29_code (5 : Nat) (Option.some Jvm.ClassFile.FieldType.int), Jvm.Cond.code ({ cls := "SagaCoordinator", name := "applyReserve", desc := "(I)V" } : Jvm.MethodName) prog_1_method_30_code (3 : Nat) (Option.none : Option Jvm.ClassFile.FieldType), Jvm.Cond.code ({ cls := "SagaCoordinator", name := "replyFor", desc := "(II)I" } : Jvm.MethodName) prog_1_method_28_code (3 : Nat) (Option.some Jvm.ClassFile.FieldType.int), Jvm.Cond.code ({ cls := "SagaCoordinator", name := "setSlot", desc := "(IIII)V" } : Jvm.MethodName) prog_1_method_24_code (5 : Nat) (Option.none : Option Jvm.ClassFile.FieldType), Jvm.Cond.code ({ cls := "SagaCoordinator", name := "receive", desc := "(I)I" } : Jvm.MethodName) prog_1_method_7_code (4 : Nat) (Option.some Jvm.ClassFile.FieldType.int), Jvm.Cond.code ({ cls := "SagaCoordinator", name := "onReserveRefused", desc := "(II)V" } : Jvm.MethodName) prog_1_method_33_code (3 : Nat) (Option.none : Option Jvm.ClassFile.FieldType), Jvm.Cond.code ({ cls := "SagaCoordinator", name := "compensate", desc := "(I)V" } : Jvm.MethodName) prog_1_method_37_code (3 : Nat) (Option.none : Option Jvm.ClassFile.FieldType), Jvm.Cond.code ({ cls := "SagaCoordinator", name := "highestDone", desc := "(I)I" } : Jvm.MethodName) prog_1_method_36_code (4 : Nat) (Option.some Jvm.ClassFile.FieldType.int), Jvm.Cond.code ({ cls := "SagaCoordinator", name := "getStepState", desc := "(II)I" } : Jvm.MethodName) prog_1_method_13_code (3 : Nat) (Option.some Jvm.ClassFile.FieldType.int), Jvm.Cond.code ({ cls := "SagaCoordinator", name := "isValidStep", desc := "(II)Z" } : Jvm.MethodName) prog_1_method_20_code (3 : Nat) (Option.some Jvm.ClassFile.FieldType.boolean), Jvm.Cond.code ({ cls := "SagaCoordinator", name := "getEntry", desc := "(II)I" } : Jvm.MethodName) prog_1_method_14_code (3 : Nat) (Option.some Jvm.ClassFile.FieldType.int), Jvm.Cond.code ({ cls := "SagaCoordinator", name := "getSagaStatus", desc := "(I)I" } : Jvm.MethodName) prog_1_method_11_code (2 : Nat) (Option.some Jvm.ClassFile.FieldType.int), Jvm.Cond.code ({ cls := "SagaCoordinator", name := "getTotal", desc := "(I)I" } : Jvm.MethodName) prog_1_method_15_code (2 : Nat) (Option.some Jvm.ClassFile.FieldType.int), Jvm.Cond.code ({ cls := "SagaCoordinator", name := "onReserveOk", desc := "(II)V" } : Jvm.MethodName) prog_1_method_32_code (3 : Nat) (Option.none : Option Jvm.ClassFile.FieldType), Jvm.Cond.code ({ cls := "SagaCoordinator", name := "applyRelease", desc := "(I)V" } : Jvm.MethodName) prog_1_method_31_code (3 : Nat) (Option.none : Option Jvm.ClassFile.FieldType), Jvm.Cond.code ({ cls := "SagaCoordinator", name := "onReleaseOk", desc := "(II)V" } : Jvm.MethodName) prog_1_method_34_code (3 : Nat) (Option.none : Option Jvm.ClassFile.FieldType)]
set_option maxRecDepth 65536 in
theorem codes_eq : words1.filter isCode = codes1 := rfl
theorem w_codes : ∀ c ∈ words1.filter isCode, c.before args0 about1 = true := by
  rw [codes_eq]
  intro c hc
  simp only [codes1, List.mem_cons, List.not_mem_nil, or_false] at hc
  rcases hc with rfl | rfl | rfl | rfl | rfl | rfl | rfl | rfl | rfl | rfl | rfl | rfl | rfl | rfl | rfl | rfl | rfl | rfl | rfl | rfl | rfl | rfl | rfl | rfl | rfl | rfl | rfl | rfl | rfl | rfl
  · exact w_c0
  · exact w_c1
  · exact w_c2
  · exact w_c3
  · exact w_c4
  · exact w_c5
  · exact w_c6
  · exact w_c7
  · exact w_c8
  · exact w_c9
  · exact w_c10
  · exact w_c11
  · exact w_c12
  · exact w_c13
  · exact w_c14
  · exact w_c15
  · exact w_c16
  · exact w_c17
  · exact w_c18
  · exact w_c19
  · exact w_c20
  · exact w_c21
  · exact w_c22
  · exact w_c23
  · exact w_c24
  · exact w_c25
  · exact w_c26
  · exact w_c27
  · exact w_c28
  · exact w_c29
set_option maxRecDepth 65536 in
theorem w_t1 : (words1.take 24).all (fun c => isCode c || c.before args0 about1) = true := by decide +kernel
set_option maxRecDepth 65536 in
theorem w_t2 : ((words1.drop 24).take 24).all (fun c => isCode c || c.before args0 about1) = true := by decide +kernel
set_option maxRecDepth 65536 in
theorem w_t3 : (((words1.drop 24).drop 24).take 24).all (fun c => isCode c || c.before args0 about1) = true := by decide +kernel
set_option maxRecDepth 65536 in
theorem w_t4 : ((((words1.drop 24).drop 24).drop 24).take 24).all (fun c => isCode c || c.before args0 about1) = true := by decide +kernel
set_option maxRecDepth 65536 in
theorem w_t5 : (((((words1.drop 24).drop 24).drop 24).drop 24).take 24).all (fun c => isCode c || c.before args0 about1) = true := by decide +kernel
set_option maxRecDepth 65536 in
theorem w_t6 : ((((((words1.drop 24).drop 24).drop 24).drop 24).drop 24).take 24).all (fun c => isCode c || c.before args0 about1) = true := by decide +kernel
set_option maxRecDepth 65536 in
theorem w_t7 : ((((((words1.drop 24).drop 24).drop 24).drop 24).drop 24).drop 24).all (fun c => isCode c || c.before args0 about1) = true := by decide +kernel
theorem w_tables : (allAtoms (Jvm.Cond.code x code maxLocals ret :: tables_1)).before args0 about1 = true := by
  rw [allAtoms_all]
  show words1.all (fun c => c.before args0 about1) = true
  refine all_split ?_ w_codes
  rw [← List.take_append_drop 24 words1, List.all_append, w_t1, ← List.take_append_drop 24 (words1.drop 24), List.all_append, w_t2, ← List.take_append_drop 24 ((words1.drop 24).drop 24), List.all_append, w_t3, ← List.take_append_drop 24 (((words1.drop 24).drop 24).drop 24), List.all_append, w_t4, ← List.take_append_drop 24 ((((words1.drop 24).drop 24).drop 24).drop 24), List.all_append, w_t5, ← List.take_append_drop 24 (((((words1.drop 24).drop 24).drop 24).drop 24).drop 24), List.all_append, w_t6, w_t7]
  rfl
set_option maxRecDepth 65536 in
theorem w_case : (Jvm.Cond.and given_1 narrow_1).before args0 about1 = true := by decide +kernel
theorem w_applies : (headSpec (Jvm.Cond.code x code maxLocals ret :: tables_1) room_1).applies x e0.platform about1 = true :=
  (Spec.applies_iff w_frames).mpr ⟨w_running, w_runnable, w_alone, w_named, w_hears, w_ripe, w_room, w_tables⟩
theorem atStart : AtStart classFile x code maxLocals ret World_1 tables_1 room_1 Calls_1 rest_1 Pre_1 launch0 p0 e0 about1 theMethod args0 below0 :=
  ⟨lists_1, trivial, launch0.admits_env _ _ _, launch0.least_env, fairChoices_fair.cas, fairChoices_fair.clock, w_frames, w_args, w_heap, w_applies, trivial, trivial, w_case⟩
end start1
theorem witness_1 : WitnessClaimed_1 := ⟨start1.p0, start1.e0, start1.about1, start1.theMethod, start1.args0, start1.below0, start1.atStart⟩
end Jvm.Pilot.@@N@@
